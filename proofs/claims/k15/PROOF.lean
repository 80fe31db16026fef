import PyProof.Rows.All
import Wide.All
import OpenK.AllK
import Wide.FinOn
import KE.KStateDown
import HandS.ForMost
import HandS.ForExc
import HandS.CallSlots
import HandS.Defaults
import HandS.Head0
import HandS.Head1
import HandS.Head2
import HandS.HeadEnd
import HandS.HeadHook1
import HandS.HeadHook2
import HandS.HeadHook3
import HandS.HeadHook4
import PySem.PyData
import PyProof.P3Statements
import PyProof.EqLayable
import KE.SortData
import HandS.ExcField
import HandS.More
import HandS.Deep
import HandS.ListItems
import HandS.SetFor
import HandS.DictComp
import HandS.NoneIn
import HandS.Walk
import HandS.Zip
import KE.GoesMore
import HandS.TupLen
import HandS.TupAny
import HandS.TupMul
import HandS.Style
import HandS.IsInst
import HandS.SortInts
import HandS.Conv
import HandS.Flow
import KE.SortKeyHeap
import HandS.SortKw
import KE.GoesEnum
import HandS.TryMany
import HandS.ExcInit
import PySem.Challenge.RW_allbide_k15_refusals_of_bounds
set_option autoImplicit false
/-! A small language of pure data: what the program's functions compute, as a total function of plain data. -/
namespace Bide
open PySem

abbrev D := PyData

/-- the content of an object that one name alone holds -/
inductive OV where
  | l (ds : List D)
  | d (t : Bool) (kvs : List (D × D))
  | ll (dss : List (List D))
def OV.val : OV → D
  | .l ds => .list ds
  | .d t kvs => .dict ((.bool t, .none) :: kvs)
  | .ll dss => .list (dss.map .list)
/-- a slot: empty, a shared value, an owned object, an owned list that a caller lent -/
inductive SV where
  | no
  | sh (d : D)
  | ow (o : OV)
  | io (ds : List D)
abbrev Ev := List SV
/-- a result: a shared value, a new object, the object of a slot -/
inductive RV where
  | v (d : D)
  | f (o : OV)
  | s (i : Nat)
structure Exc where
  c : String
  fs : List D
inductive R (α : Type) where
  | ok (a : α) (e : Ev)
  | ex (x : Exc) (e : Ev)
  | bad
/-- what a function gives -/
inductive FR where
  | ok (r : RV) (outs : List (List D))
  | ex (x : Exc)
  | bad
structure Fn where
  io : List Bool
  run : List D → FR

inductive Bop | add | sub | mul | fdiv | mod | pow
inductive Cop | eq | ne | lt | le | gt | ge | isN | notN | isB | notB | inn | notin
inductive Blt | len | abs | int | sum | all | any | max1 | min1 | max2 | min2 | tuple | list | sorted
inductive Ty | int | bool | str | tuple | list
inductive Mth | append | extend | pop1 | remove

mutual
inductive E where
  | var (i : Nat)
  | non
  | bl (b : Bool)
  | int (i : Int)
  | str (s : String)
  | glo (x : String)
  | bin (o : Bop) (a b : E)
  | neg (a : E)
  | cmp (o : Cop) (a b : E)
  | chn (o p : Cop) (a b c : E)
  | and (a b : E)
  | or (a b : E)
  | not (a : E)
  | ife (t : T) (a b : E)
  | tup (es : Es)
  | lst (es : Es)
  | dnew (t : Bool)
  | idx (a b : E)
  | idx2 (i : Nat) (a : E) (j : Nat)
  | slc (a : E) (lo hi : O)
  | dget (a b : E)
  | call (f : String) (es : Es)
  | blt (f : Blt) (es : Es)
  | lrg (a : E)
  | lrg2 (a b : E)
  | trg (a : E)
  | rev (a : E)
  | isi (a : E) (t : Ty)
  | mth1 (m : Mth) (i : Nat) (e : E)
  | pop0 (i : Nat)
  | ins (i : Nat) (a b : E)
  | ixof (a b : E)
  | dlit (k v : E)
  | dg1 (a b : E)
  | dg2 (a b d : E)
  | items (i : Nat)
  | strI (a : E)
  | srtk (a k : E)
  | lc (own : List Nat) (tg : List Nat) (tup : Bool) (it : It) (c : C) (e : E)
  | lco (own : List Nat) (tg : List Nat) (tup : Bool) (i : Nat) (c : C) (e : E)
  | lc2 (own : List Nat) (tg : List Nat) (tup : Bool) (it : It) (c : C) (e : E)
  | dc (kt : Bool) (own : List Nat) (tg : List Nat) (tup : Bool) (it : It) (c : C) (k v : E)
  | dck (kt : Bool) (own : List Nat) (tg : List Nat) (tup : Bool) (i : Nat) (c : C) (k v : E)
inductive T where
  | val (e : E)
  | and (a b : T)
  | or (a b : T)
  | not (a : T)
inductive Es where
  | nil
  | cons (e : E) (es : Es)
inductive O where
  | no
  | so (e : E)
inductive C where
  | no
  | so (t : T)
inductive It where
  | seq (e : E)
  | rng (a : E)
  | rng2 (a b : E)
  | enum (e : E)
  | zip (a b : E)
end

/-- what an except suite returns: a field of the exception, or a list of a word and a field -/
inductive Hx where
  | fld (j : Nat) (f : String)
  | lst (s : String) (j : Nat) (f : String)
  | tup (s : String) (j : Nat) (f : String)
/-- parts of what an except suite returns -/
inductive HA where
  | fld (j : Nat) (f : String)
  | str (s : String)
  | non
  | bl (b : Bool)
  | isi (c : String)
inductive HX where
  | one (a : HA)
  | tup (as : List HA)
  | lst (as : List HA)
/-- an except suite: its class, its name's slot, what it returns by tests of the class, and else -/
structure Hd where
  c : String
  sl : Option Nat
  ts : List (List String × HX)
  el : HX
mutual
inductive S where
  | asg (i : Nat) (e : E)
  | unp (is : List Nat) (e : E)
  | unl (is : List Nat) (e : E)
  | sti (i : Nat) (a v : E)
  | st2 (i : Nat) (a : E) (j : Nat) (v : E)
  | std (i : Nat) (k v : E)
  | xpr (e : E)
  | ife (t : T) (a b : Ss)
  | forr (tg : List Nat) (tup : Bool) (it : It) (b : Ss)
  | fork (tg : List Nat) (tup : Bool) (i : Nat) (b : Ss)
  | whl (n : Nat) (t : T) (b : Ss)
  | ret (e : E)
  | retN
  | rse (c : String) (es : Es)
  | trx (b : Ss) (x : String) (i : Nat) (h : Hx)
  | trm (b : Ss) (hs : List Hd)
  | unn (is js : List Nat) (e : E)
  | sw2 (i : Nat) (a b v u : E)
  | pass
  | brk
  | cont
  | nev
inductive Ss where
  | nil
  | cons (a : S) (b : Ss)
end

inductive Fl where
  | nx
  | br
  | ct
  | rt (r : RV)

/-! ### reading and sharing -/
def rd (ev : Ev) : RV → Option D
  | .v d => some d
  | .f o => some o.val
  | .s i => match ev[i]? with
    | some (.sh d) => some d
    | some (.ow (.l ds)) => some (.list ds)
    | some (.ow (.d t k)) => some (.dict ((.bool t, .none) :: k))
    | some (.io ds) => some (.list ds)
    | _ => none
def esc (ev : Ev) : RV → Option (D × Ev)
  | .v d => some (d, ev)
  | .f o => some (o.val, ev)
  | .s i => match ev[i]? with
    | some (.sh d) => some (d, ev)
    | some (.ow o) => some (o.val, ev.set i (.sh o.val))
    | _ => none
/-- an operand that waits for the others is shared -/
def stl : RV → RV
  | .f o => .v o.val
  | r => r
def rds (ev : Ev) : List RV → Option (List D)
  | [] => some []
  | r :: rs => match rd ev r, rds ev rs with
    | some d, some ds => some (d :: ds)
    | _, _ => none
def escs : Ev → List RV → Option (List D × Ev)
  | ev, [] => some ([], ev)
  | ev, r :: rs => match esc ev r with
    | some (d, ev1) => match escs ev1 rs with
      | some (ds, ev2) => some (d :: ds, ev2)
      | none => none
    | none => none
/-- the arguments: shared, or lent -/
def lend : Ev → List Bool → List RV → Option (List D × List Nat × Ev)
  | ev, [], [] => some ([], [], ev)
  | ev, false :: bs, r :: rs => match esc ev r with
    | some (d, ev1) => match lend ev1 bs rs with
      | some (ds, ls, ev2) => some (d :: ds, ls, ev2)
      | none => none
    | none => none
  | ev, true :: bs, .s i :: rs => match lend ev bs rs with
    | some (ds, ls, ev2) => match ev2[i]? with
      | some (.ow (.l xs)) => if i ∈ ls then none else some (.list xs :: ds, i :: ls, ev2)
      | some (.io xs) => if i ∈ ls then none else some (.list xs :: ds, i :: ls, ev2)
      | _ => none
    | none => none
  | _, _, _ => none
def giveBack : Ev → List Nat → List (List D) → Option Ev
  | ev, [], [] => some ev
  | ev, i :: is, xs :: xss => match ev[i]? with
    | some (.ow _) => giveBack (ev.set i (.ow (.l xs))) is xss
    | some (.io _) => giveBack (ev.set i (.io xs)) is xss
    | _ => none
  | _, _, _ => none

/-! ### operations on data -/
def line : Nat := 16777216
def truth : D → Option Bool
  | .none => some false
  | .bool b => some b
  | .int i => some (i != 0)
  | .str x => if x.length ≤ line then some ((x.length : Int) != 0) else none
  | .list xs => some (!xs.isEmpty)
  | .tuple xs => some (!xs.isEmpty)
  | .dict _ => none
/-- an expression's value as a test: a dict's truth, too -/
def truT : D → Option Bool
  | .dict ((.bool false, .none) :: kvs) => some (!kvs.isEmpty)
  | d => truth d
def bop : Bop → D → D → Option RV
  | .add, .int i, .int j => some (.v (.int (i + j)))
  | .add, .str x, .str y => if x.length + y.length ≤ line then some (.v (.str (x ++ y))) else none
  | .add, .tuple xs, .tuple ys => if xs.length + ys.length ≤ line then some (.v (.tuple (xs ++ ys))) else none
  | .add, .list xs, .list ys => if xs.length + ys.length ≤ line then some (.f (.l (xs ++ ys))) else none
  | .sub, .int i, .int j => some (.v (.int (i - j)))
  | .mul, .int i, .int j => if (-(2 ^ 64) < i ∧ i < 2 ^ 64) ∨ (-(2 ^ 64) < j ∧ j < 2 ^ 64) then some (.v (.int (i * j))) else none
  | .mul, .tuple xs, .int j => if xs ≠ [] ∧ 2 ≤ j ∧ j ≤ 1000 ∧ xs.length ≤ 1000 then some (.v (.tuple (List.replicate j.toNat xs).flatten)) else none
  | .mul, .list xs, .int j => if xs.length * j.toNat ≤ line ∧ j < 2 ^ 62 ∧ -(2 ^ 62) < j then some (.f (.l (List.replicate j.toNat xs).flatten)) else none
  | .fdiv, .int i, .int j => if 0 < j ∧ j < 1073741824 then some (.v (.int (i / j))) else none
  | .mod, .int i, .int j => if 0 < j then some (.v (.int (i % j))) else none
  | .pow, .int i, .int j => if 0 ≤ j ∧ j ≤ 1000000 ∧ i.natAbs < 2 ^ 64 then some (.v (.int (i ^ j.toNat))) else none
  | _, _, _ => none
def flat : D → Bool
  | .none => true
  | .bool _ => true
  | .int _ => true
  | .str _ => true
  | _ => false
/-- a key of a dict -/
def keyOk : D → Bool
  | .int _ => true
  | .str _ => true
  | _ => false
def keyOkT : Bool → D → Bool
  | false, k => keyOk k
  | true, .tuple ks => ks.all keyOk
  | true, _ => false
def sameKey : D → D → Bool
  | .int i, .int j => i == j
  | .str x, .str y => x == y
  | .tuple xs, .tuple ys => PyData.eqvAll xs ys
  | _, _ => false
def getKV : List (D × D) → D → Option D
  | [], _ => none
  | (k, v) :: r, x => if sameKey k x then some v else getKV r x
def putKV (kvs : List (D × D)) (x y : D) : List (D × D) :=
  if (kvs.any fun kv => sameKey kv.1 x) = true then kvs.map (fun kv => if sameKey kv.1 x = true then (kv.1, y) else kv) else kvs ++ [(x, y)]
def dIn (d : D) : D → Option Bool
  | .list xs => if SeqAt.shaped d = true ∧ SeqAt.shaped (.list xs) = true then some (xs.any fun y => PyData.eqv y d) else none
  | .tuple xs => if flat d = true ∧ xs.all flat = true then some (xs.any fun y => PyData.eqv y d) else none
  | .dict [(.none, .tuple xs)] => if flat d = true ∧ xs.all flat = true then some (xs.any fun y => PyData.eqv y d) else none
  | .dict ((.bool t, .none) :: kvs) => if keyOkT t d = true then some (getKV kvs d).isSome else none
  | _ => none
def isNone : D → Bool
  | .none => true
  | _ => false
def cop : Cop → D → D → Option Bool
  | .eq, d, e => if SeqAt.shaped d = true ∧ SeqAt.shaped e = true then some (PyData.eqv d e) else none
  | .ne, d, e => if SeqAt.shaped d = true ∧ SeqAt.shaped e = true then some (!PyData.eqv d e) else none
  | .lt, .int i, .int j => some (decide (i < j))
  | .le, .int i, .int j => some (decide (i ≤ j))
  | .gt, .int i, .int j => some (decide (j < i))
  | .ge, .int i, .int j => some (decide (j ≤ i))
  | .isB, .bool a, .bool b => some (decide (a = b))
  | .notB, .bool a, .bool b => some (!decide (a = b))
  | .isN, d, .none => some (isNone d)
  | .notN, d, .none => some (!isNone d)
  | .inn, d, e => dIn d e
  | .notin, d, e => (dIn d e).map not
  | _, _, _ => none
def intsL : List D → Option (List Int)
  | [] => some []
  | .int i :: r => (intsL r).map (i :: ·)
  | _ :: _ => none
def bls : List D → Option (List Bool)
  | [] => some []
  | .bool b :: r => (bls r).map (b :: ·)
  | _ :: _ => none
def maxI : Int → List Int → Int
  | m, [] => m
  | m, x :: r => maxI (if x > m then x else m) r
def minI : Int → List Int → Int
  | m, [] => m
  | m, x :: r => minI (if x < m then x else m) r
def insI (x : Int) : List Int → List Int
  | [] => [x]
  | y :: r => if x ≤ y then x :: y :: r else y :: insI x r
def sortI : List Int → List Int
  | [] => []
  | x :: r => insI x (sortI r)
/-- data that can be sorted -/
def tupNE : D → Bool
  | .tuple (_ :: _) => true
  | _ => false
def srtB (ds : List D) : Bool := ds.all (fun d => ds.all fun e => PySem.W.alike d e) && (ds.all tupNE && ds.all fun d => d.canLay0 && decide (d.depth ≤ 60))
def sortK (ds ks : List D) : List D := ((ds.zip ks).mergeSort (PySem.W.dataLe false fun p : D × D => p.2)).map (·.1)
def ixD (ds : List D) (d : D) : Option Nat := if SeqAt.shaped (.list ds) = true ∧ SeqAt.shaped d = true then ds.findIdx? (fun y => PyData.eqv y d) else none
def seqOf : D → Option (List D)
  | .list ds => some ds
  | .tuple ds => some ds
  | .dict [(.none, .tuple ds)] => some ds
  | _ => none
def lenOf : D → Option Nat
  | .list ds => some ds.length
  | .tuple ds => some ds.length
  | .str x => if x.length ≤ line then some x.length else none
  | .dict ((.bool _, .none) :: kvs) => some kvs.length
  | _ => none
def blt : Blt → List D → Option RV
  | .len, [d] => match lenOf d with
    | some n => some (.v (.int ((n : Nat) : Int)))
    | none => none
  | .abs, [.int i] => some (.v (.int (if i < 0 then -i else i)))
  | .int, [.int i] => some (.v (.int i))
  | .int, [.bool b] => some (.v (.int (if b then 1 else 0)))
  | .sum, [.list ds] => (intsL ds).map fun ns => .v (.int ns.sum)
  | .all, [.list ds] => (bls ds).map fun bs => .v (.bool (bs.all id))
  | .any, [.list ds] => (bls ds).map fun bs => .v (.bool (bs.any id))
  | .max1, [.list ds] => match intsL ds with
    | some (n :: ns) => some (.v (.int (maxI n ns)))
    | _ => none
  | .min1, [.list ds] => match intsL ds with
    | some (n :: ns) => some (.v (.int (minI n ns)))
    | _ => none
  | .max2, [.int i, .int j] => some (.v (.int (if j > i then j else i)))
  | .min2, [.int i, .int j] => some (.v (.int (if j < i then j else i)))
  | .tuple, [.list ds] => some (.v (.tuple ds))
  | .tuple, [.tuple ds] => some (.v (.tuple ds))
  | .list, [.list ds] => some (.f (.l ds))
  | .list, [.dict [(.none, .list ds)]] => some (.f (.l ds))
  | .list, [.tuple ds] => some (.f (.l ds))
  | .sorted, [.list ds] => match intsL ds with
    | some ns => some (.f (.l ((sortI ns).map PyData.int)))
    | none => if srtB ds = true then some (.f (.l (ds.mergeSort (PySem.W.dataLe false id)))) else none
  | .sorted, [.tuple ds] => (intsL ds).map fun ns => .f (.l ((sortI ns).map PyData.int))
  | .sorted, [.dict ((.bool false, .none) :: kvs)] => match intsL (kvs.map (·.1)) with
    | some ns => if ns.length < 64 then some (.f (.l ((sortI ns).map PyData.int))) else none
    | none => none
  | _, _ => none
def isTy : Ty → D → Option Bool
  | .int, .int _ => some true
  | .int, .bool _ => some true
  | .bool, .bool _ => some true
  | .str, .str _ => some true
  | .tuple, .tuple _ => some true
  | .list, .list _ => some true
  | _, .dict ((.bool false, .none) :: _) => some false
  | _, .dict _ => none
  | _, _ => some false
/-- xs[i], i of any sign -/
def atD {α : Type} (xs : List α) (i : Int) : Option α :=
  if 0 ≤ i then xs[i.toNat]? else if 0 ≤ i + xs.length then xs[(i + xs.length).toNat]? else none
def idxD : D → D → Option D
  | .list ds, .int i => atD ds i
  | .tuple ds, .int i => atD ds i
  | _, _ => none
def cutN (n dflt : Nat) : Option Int → Nat
  | none => dflt
  | some v => if v < 0 then (v + n).toNat else min v.toNat n
def cutL (ds : List D) (lo hi : Option Int) : List D :=
  (ds.drop (cutN ds.length 0 lo)).take (cutN ds.length ds.length hi - cutN ds.length 0 lo)
def slcD : D → Option Int → Option Int → Option RV
  | .list ds, lo, hi => some (.f (.l (cutL ds lo hi)))
  | .tuple ds, lo, hi => some (.v (.tuple (cutL ds lo hi)))
  | _, _, _ => none
def revD : D → Option RV
  | .list ds => some (.f (.l ds.reverse))
  | .tuple ds => some (.v (.tuple ds.reverse))
  | _ => none
def asInt : D → Option Int
  | .int i => some i
  | _ => none
def setAt {α : Type} (xs : List α) (i : Int) (v : α) : Option (List α) :=
  if 0 ≤ i then (if i < xs.length then some (xs.set i.toNat v) else none)
  else if 0 ≤ i + xs.length then some (xs.set (i + xs.length).toNat v) else none
def mth : Mth → List D → D → Option (D × List D)
  | .append, xs, d => if xs.length < line then some (.none, xs ++ [d]) else none
  | .extend, xs, .list ds => if xs.length + ds.length ≤ line then some (.none, xs ++ ds) else none
  | .remove, xs, .int k => match intsL xs with
    | some ns => if k ∈ ns then some (.none, (ns.erase k).map PyData.int) else none
    | none => none
  | .pop1, xs, .int i => if 0 ≤ i then (match xs[i.toNat]? with
    | some d => some (d, xs.eraseIdx i.toNat)
    | none => none) else none
  | _, _, _ => none
/-- the list in a slot -/
def ownL : Option SV → Option (List D)
  | some (.ow (.l xs)) => some xs
  | some (.io xs) => some xs
  | _ => none
def putL (ev : Ev) (i : Nat) (xs : List D) : Ev := match ev[i]? with
  | some (.io _) => ev.set i (.io xs)
  | _ => ev.set i (.ow (.l xs))
def ownLL : Option SV → Option (List (List D))
  | some (.ow (.ll xs)) => some xs
  | _ => none

/-! ### evaluation -/
structure Cf where
  G : String → Option Fn
  gl : String → Option D

def R.of {α : Type} (e : Ev) : Option α → R α
  | some a => .ok a e
  | none => .bad
/-- a value bound to slots -/
def setV (ev : Ev) (i : Nat) (v : SV) : Option Ev :=
  match ev[i]? with
  | some (.io _) => none
  | none => none
  | _ => some (ev.set i v)
def setVs : Ev → List Nat → List D → Option Ev
  | ev, [], [] => some ev
  | ev, i :: is, d :: ds => match setV ev i (.sh d) with
    | some ev1 => setVs ev1 is ds
    | none => none
  | _, _, _ => none
def bindTg (tup : Bool) (tg : List Nat) (ev : Ev) (d : D) : Option Ev :=
  match tup with
  | false => setVs ev tg [d]
  | true => match d with
    | .tuple ds => setVs ev tg ds
    | _ => none
/-- a block's own names: none is owned; they are emptied -/
def wipeE : Ev → List Nat → Option Ev
  | ev, [] => some ev
  | ev, i :: is => match wipeE ev is with
    | some ev1 => match ev1[i]? with
      | some .no => some ev1
      | some (.sh _) => some (ev1.set i .no)
      | _ => none
    | none => none
/-- behind the block they are as they were -/
def unwipe (ev0 : Ev) : Ev → List Nat → Ev
  | ev, [] => ev
  | ev, i :: is => (unwipe ev0 ev is).set i (ev0[i]?.getD .no)
/-- a comprehension's turns -/
def lcL (own : List Nat) (tg : List Nat) (tup : Bool) (t : Ev → R Bool) (f : Ev → R RV) : List D → List D → Ev → R (List D)
  | [], acc, ev => match wipeE ev own with
    | some _ => .ok acc ev
    | none => .bad
  | d :: ds, acc, ev => match wipeE ev own with
    | some ev0 => match bindTg tup tg ev0 d with
      | some ev1 => match t ev1 with
        | .ok true ev2 => match f ev2 with
          | .ok r ev3 => match esc ev3 r with
            | some (x, ev4) => lcL own tg tup t f ds (acc ++ [x]) ev4
            | none => .bad
          | _ => .bad
        | .ok false ev2 => lcL own tg tup t f ds acc ev2
        | _ => .bad
      | none => .bad
    | none => .bad
def lcLL (own : List Nat) (tg : List Nat) (tup : Bool) (f : Ev → R RV) : List D → List (List D) → Ev → R (List (List D))
  | [], acc, ev => match wipeE ev own with
    | some _ => .ok acc ev
    | none => .bad
  | d :: ds, acc, ev => match wipeE ev own with
    | some ev0 => match bindTg tup tg ev0 d with
      | some ev1 => match f ev1 with
        | .ok (.f (.l xs)) ev3 => lcLL own tg tup f ds (acc ++ [xs]) ev3
        | _ => .bad
      | none => .bad
    | none => .bad
/-- a dict comprehension's turns -/
def dcL (own tg : List Nat) (tup kt : Bool) (t : Ev → R Bool) (k v : Ev → R RV) : List D → List (D × D) → Ev → R (List (D × D))
  | [], acc, ev => match wipeE ev own with
    | some _ => .ok acc ev
    | none => .bad
  | d :: ds, acc, ev => match wipeE ev own with
    | some ev0 => match bindTg tup tg ev0 d with
      | some ev1 => match t ev1 with
        | .ok true ev2 => match k ev2 with
          | .ok r ev3 => match esc ev3 r with
            | some (x, ev4) => match v ev4 with
              | .ok q ev5 => match esc ev5 q with
                | some (y, ev6) => if keyOkT kt x = true then dcL own tg tup kt t k v ds (putKV acc x y) ev6 else .bad
                | none => .bad
              | _ => .bad
            | none => .bad
          | _ => .bad
        | .ok false ev2 => dcL own tg tup kt t k v ds acc ev2
        | _ => .bad
      | none => .bad
    | none => .bad
/-- a dict's keys, the dict shared -/
def keysE (ev : Ev) (i : Nat) : Option (List D × Ev) := match esc ev (.s i) with
  | some (.dict ((.bool _, .none) :: kvs), e1) => some (kvs.map (·.1), e1)
  | _ => none
/-- nothing is raised -/
def noX {α : Type} : R α → R α
  | .ok a e => .ok a e
  | _ => .bad
/-- a for's turns -/
def forL (tg : List Nat) (tup : Bool) (f : Ev → R Fl) : List D → Ev → R Fl
  | [], ev => .ok .nx ev
  | d :: ds, ev => match bindTg tup tg ev d with
    | some ev1 => match f ev1 with
      | .ok .nx ev2 => forL tg tup f ds ev2
      | .ok .ct ev2 => forL tg tup f ds ev2
      | .ok .br ev2 => .ok .nx ev2
      | .ok (.rt r) ev2 => .ok (.rt r) ev2
      | .ex x ev2 => .ex x ev2
      | .bad => .bad
    | none => .bad
def whlL (t : Ev → R Bool) (f : Ev → R Fl) : Nat → Ev → R Fl
  | 0, _ => .bad
  | n + 1, ev => match t ev with
    | .ok true ev1 => match f ev1 with
      | .ok .nx ev2 => whlL t f n ev2
      | .ok .ct ev2 => whlL t f n ev2
      | .ok .br ev2 => .ok .nx ev2
      | .ok (.rt r) ev2 => .ok (.rt r) ev2
      | .ex x ev2 => .ex x ev2
      | .bad => .bad
    | .ok false ev1 => .ok .nx ev1
    | .ex x ev1 => .ex x ev1
    | .bad => .bad
/-- the items that a walk gives -/
def enumD (ds : List D) : List D := (List.range ds.length).zip ds |>.map fun p => .tuple [.int (p.1 : Nat), p.2]
def zipD (ds es : List D) : List D := (ds.zip es).map fun p => .tuple [p.1, p.2]
def rngD (lo : Int) (n : Nat) : List D := (List.range n).map fun (i : Nat) => .int (lo + i)

/-- the keys of a sort: each by the key's expression, the item alone in its slots -/
def keysL (f : Ev → R RV) : List D → Option (List D)
  | [] => some []
  | d :: ds => match f [.sh d] with
    | .ok r e => match esc e r with
      | some (x, _) => (keysL f ds).map (x :: ·)
      | none => none
    | _ => none
def R.bind {α β : Type} (r : R α) (f : α → Ev → R β) : R β :=
  match r with
  | .ok a e => f a e
  | .ex x e => .ex x e
  | .bad => .bad

mutual
def evE (c : Cf) : E → Ev → R RV
  | .var i, ev => match ev[i]? with
    | some (.sh d) => .ok (.v d) ev
    | some (.ow (.ll xs)) => .ok (.v (OV.ll xs).val) (ev.set i (.sh (OV.ll xs).val))
    | some (.ow _) => .ok (.s i) ev
    | some (.io _) => .ok (.s i) ev
    | _ => .bad
  | .non, ev => .ok (.v .none) ev
  | .bl b, ev => .ok (.v (.bool b)) ev
  | .int i, ev => .ok (.v (.int i)) ev
  | .str s, ev => .ok (.v (.str (Str.ofString s))) ev
  | .glo x, ev => match c.gl x with
    | some d => .ok (.v d) ev
    | none => .bad
  | .bin o a b, ev => (evE c a ev).bind fun r e1 => (evE c b e1).bind fun q e2 =>
    match rd e2 (stl r), rd e2 q with
    | some x, some y => R.of e2 (bop o x y)
    | _, _ => .bad
  | .neg a, ev => (evE c a ev).bind fun r e1 => match rd e1 r with
    | some (.int i) => .ok (.v (.int (-i))) e1
    | _ => .bad
  | .cmp o a b, ev => (evE c a ev).bind fun r e1 => (evE c b e1).bind fun q e2 =>
    match rd e2 (stl r), rd e2 q with
    | some x, some y => match cop o x y with
      | some k => .ok (.v (.bool k)) e2
      | none => .bad
    | _, _ => .bad
  | .chn o p a b d, ev => (evE c a ev).bind fun r e1 => (evE c b e1).bind fun q e2 =>
    match rd e2 (stl r), rd e2 (stl q) with
    | some x, some y => match cop o x y with
      | some true => (evE c d e2).bind fun u e3 => match rd e3 (stl q), rd e3 u with
        | some y2, some z => match cop p y2 z with
          | some k => .ok (.v (.bool k)) e3
          | none => .bad
        | _, _ => .bad
      | some false => .ok (.v (.bool false)) e2
      | none => .bad
    | _, _ => .bad
  | .and a b, ev => (evE c a ev).bind fun r e1 => match rd e1 r with
    | some d => match truth d with
      | some true => evE c b e1
      | some false => .ok (stl r) e1
      | none => .bad
    | none => .bad
  | .or a b, ev => (evE c a ev).bind fun r e1 => match rd e1 r with
    | some d => match truth d with
      | some false => evE c b e1
      | some true => .ok (stl r) e1
      | none => .bad
    | none => .bad
  | .not a, ev => (evE c a ev).bind fun r e1 => match rd e1 r with
    | some d => match truth d with
      | some k => .ok (.v (.bool (!k))) e1
      | none => .bad
    | none => .bad
  | .ife t a b, ev => (evT c t ev).bind fun k e1 => match k with
    | true => evE c a e1
    | false => evE c b e1
  | .tup es, ev => (evEs c es ev).bind fun rs e1 => match escs e1 rs with
    | some (ds, e2) => if ds.length ≤ line then .ok (.v (.tuple ds)) e2 else .bad
    | none => .bad
  | .lst es, ev => (evEs c es ev).bind fun rs e1 => match escs e1 rs with
    | some (ds, e2) => if ds.length ≤ line then .ok (.f (.l ds)) e2 else .bad
    | none => .bad
  | .dnew t, ev => .ok (.f (.d t [])) ev
  | .idx a b, ev => (evE c a ev).bind fun r e1 => (evE c b e1).bind fun q e2 =>
    match rd e2 (stl r), rd e2 q with
    | some x, some y => match idxD x y with
      | some d => .ok (.v d) e2
      | none => .bad
    | _, _ => .bad
  | .idx2 i a j, ev => match ownLL ev[i]? with
    | some _ => (evE c a ev).bind fun r e1 => match rd e1 r, ownLL e1[i]?, rd e1 (.s j) with
      | some (.int m), some xss, some (.int n) => match atD xss m with
        | some xs => match atD xs n with
          | some d => .ok (.v d) e1
          | none => .bad
        | none => .bad
      | _, _, _ => .bad
    | none => .bad
  | .slc a lo hi, ev => (evE c a ev).bind fun r e1 => (evO c lo e1).bind fun x e2 => (evO c hi e2).bind fun y e3 =>
    match rd e3 (stl r) with
    | some d => R.of e3 (slcD d x y)
    | none => .bad
  | .dget a b, ev => (evE c a ev).bind fun r e1 => (evE c b e1).bind fun q e2 =>
    match rd e2 (stl r), rd e2 q with
    | some (.dict ((.bool t, .none) :: kvs)), some k => match (if keyOkT t k = true then getKV kvs k else none) with
      | some d => .ok (.v d) e2
      | none => .bad
    | _, _ => .bad
  | .call f es, ev => match c.G f with
    | some F => (evEs c es ev).bind fun rs e1 => match lend e1 F.io rs with
      | some (ds, ls, e2) => match F.run ds with
        | .ok r outs => match giveBack e2 ls outs with
          | some e3 => .ok r e3
          | none => .bad
        | .ex x => if ls.isEmpty then .ex x e2 else .bad
        | .bad => .bad
      | none => .bad
    | none => .bad
  | .blt f es, ev => (evEs c es ev).bind fun rs e1 => match rds e1 rs with
    | some ds => R.of e1 (blt f ds)
    | none => .bad
  | .lrg a, ev => (evE c a ev).bind fun r e1 => match rd e1 r with
    | some (.int n) => if -(2 ^ 62) ≤ n ∧ n ≤ line then .ok (.f (.l (rngD 0 n.toNat))) e1 else .bad
    | _ => .bad
  | .lrg2 a b, ev => (evE c a ev).bind fun r e1 => (evE c b e1).bind fun q e2 => match rd e2 (stl r), rd e2 q with
    | some (.int m), some (.int n) => if -(2 ^ 62) ≤ m ∧ m < 2 ^ 62 ∧ -(2 ^ 62) ≤ n ∧ n < 2 ^ 62 ∧ n - m ≤ line then .ok (.f (.l (rngD m (n - m).toNat))) e2 else .bad
    | _, _ => .bad
  | .trg a, ev => (evE c a ev).bind fun r e1 => match rd e1 r with
    | some (.int n) => if -(2 ^ 62) ≤ n ∧ n ≤ line then .ok (.v (.tuple (rngD 0 n.toNat))) e1 else .bad
    | _ => .bad
  | .rev a, ev => (evE c a ev).bind fun r e1 => match rd e1 r with
    | some d => R.of e1 (revD d)
    | none => .bad
  | .isi a t, ev => (evE c a ev).bind fun r e1 => match rd e1 r with
    | some d => match isTy t d with
      | some k => .ok (.v (.bool k)) e1
      | none => .bad
    | none => .bad
  | .mth1 m i e, ev => match ownL ev[i]? with
    | some _ => (evE c e ev).bind fun r e1 => match esc e1 r with
      | some (d, e2) => match ownL e2[i]? with
        | some xs => match mth m xs d with
          | some (d, ys) => .ok (.v d) (putL e2 i ys)
          | none => .bad
        | none => .bad
      | none => .bad
    | none => .bad
  | .pop0 i, ev => match ownL ev[i]? with
    | some xs => match xs.getLast? with
      | some d => .ok (.v d) (putL ev i xs.dropLast)
      | none => .bad
    | none => .bad
  | .ins i a b, ev => match ownL ev[i]? with
    | some _ => (evE c a ev).bind fun q e1 => (evE c b e1).bind fun r e2 => match rd e2 (stl q) with
      | some (.int j) => match esc e2 r with
        | some (d, e3) => match ownL e3[i]? with
          | some xs => if 0 ≤ j ∧ j < 2 ^ 62 ∧ xs.length < line then .ok (.v .none) (putL e3 i (xs.take j.toNat ++ [d] ++ xs.drop j.toNat)) else .bad
          | none => .bad
        | none => .bad
      | _ => .bad
    | none => .bad
  | .ixof a b, ev => (evE c a ev).bind fun r e1 => match rd e1 r with
    | some (.list _) => (evE c b e1).bind fun q e2 => match rd e2 (stl r), rd e2 q with
      | some (.list ds), some y => match ixD ds y with
        | some j => .ok (.v (.int (j : Nat))) e2
        | none => .bad
      | _, _ => .bad
    | _ => .bad
  | .dlit k v, ev => (evE c k ev).bind fun q e1 => (evE c v e1).bind fun r e2 => match rd e2 (stl q), esc e2 r with
    | some x, some (y, e3) => if keyOk x = true then .ok (.f (.d false [(x, y)])) e3 else .bad
    | _, _ => .bad
  | .dg1 a b, ev => (evE c a ev).bind fun r e1 => match rd e1 r with
    | some (.dict ((.bool _, .none) :: _)) => (evE c b e1).bind fun q e2 => match rd e2 (stl r), rd e2 q with
      | some (.dict ((.bool t, .none) :: kvs)), some k => if keyOkT t k = true then .ok (.v ((getKV kvs k).getD .none)) e2 else .bad
      | _, _ => .bad
    | _ => .bad
  | .dg2 a b d, ev => (evE c a ev).bind fun r e1 => match rd e1 r with
    | some (.dict ((.bool _, .none) :: _)) => (evE c b e1).bind fun q e2 => (evE c d e2).bind fun u e3 => match rd e3 (stl r), rd e3 (stl q), u with
      | some (.dict ((.bool t, .none) :: kvs)), some k, .v x => if keyOkT t k = true then .ok (.v ((getKV kvs k).getD x)) e3 else .bad
      | _, _, _ => .bad
    | _ => .bad
  | .items i, ev => match ev[i]? with
    | some (.ow (.d false kvs)) => .ok (.f (.l (kvs.map fun kv => .tuple [kv.1, kv.2]))) ev
    | _ => .bad
  | .strI a, ev => (evE c a ev).bind fun r e1 => match rd e1 r with
    | some (.int i) => if i.natAbs.log2 < 1920 then .ok (.v (.str (Str.ofString (toString i)))) e1 else .bad
    | _ => .bad
  | .srtk a k, ev => (evE c a ev).bind fun r e1 => match rd e1 r with
    | some (.list ds) => match keysL (evE c k) ds with
      | some ks => if srtB ks = true then .ok (.f (.l (sortK ds ks))) e1 else .bad
      | none => .bad
    | _ => .bad
  | .lc own tg tup it cd e, ev => (evIt c it ev).bind fun ds e1 => match wipeE e1 own with
    | some _ => match lcL own tg tup (evC c cd) (evE c e) ds [] e1 with
      | .ok xs e2 => .ok (.f (.l xs)) (unwipe e1 e2 own)
      | _ => .bad
    | none => .bad
  | .lco own tg tup i cd e, ev => match ev[i]? with
    | some (.ow (.l ds)) => match wipeE (ev.set i .no) own with
      | some _ => match lcL own tg tup (evC c cd) (evE c e) ds [] (ev.set i .no) with
        | .ok xs e2 => match (unwipe (ev.set i .no) e2 own)[i]? with
          | some .no => .ok (.f (.l xs)) ((unwipe (ev.set i .no) e2 own).set i (.ow (.l ds)))
          | _ => .bad
        | _ => .bad
      | none => .bad
    | _ => .bad
  | .lc2 own tg tup it _ e, ev => (evIt c it ev).bind fun ds e1 => match wipeE e1 own with
    | some _ => match lcLL own tg tup (evE c e) ds [] e1 with
      | .ok xss e2 => .ok (.f (.ll xss)) (unwipe e1 e2 own)
      | _ => .bad
    | none => .bad
  | .dc kt own tg tup it cd k v, ev => (evIt c it ev).bind fun ds e1 => match wipeE e1 own with
    | some _ => match dcL own tg tup kt (evC c cd) (evE c k) (evE c v) ds [] e1 with
      | .ok kvs e2 => .ok (.f (.d kt kvs)) (unwipe e1 e2 own)
      | _ => .bad
    | none => .bad
  | .dck kt own tg tup i cd k v, ev => match keysE ev i with
    | some (ds, e1) => match wipeE e1 own with
      | some _ => match dcL own tg tup kt (evC c cd) (evE c k) (evE c v) ds [] e1 with
        | .ok kvs e2 => .ok (.f (.d kt kvs)) (unwipe e1 e2 own)
        | _ => .bad
      | none => .bad
    | none => .bad
def evT (c : Cf) : T → Ev → R Bool
  | .val e, ev => (evE c e ev).bind fun r e1 => match rd e1 r with
    | some d => R.of e1 (truT d)
    | none => .bad
  | .and a b, ev => (evT c a ev).bind fun k e1 => match k with
    | true => evT c b e1
    | false => .ok false e1
  | .or a b, ev => (evT c a ev).bind fun k e1 => match k with
    | true => .ok true e1
    | false => evT c b e1
  | .not a, ev => (evT c a ev).bind fun k e1 => .ok (!k) e1
def evEs (c : Cf) : Es → Ev → R (List RV)
  | .nil, ev => .ok [] ev
  | .cons e es, ev => (evE c e ev).bind fun r e1 => (evEs c es e1).bind fun rs e2 => .ok (stl r :: rs) e2
def evO (c : Cf) : O → Ev → R (Option Int)
  | .no, ev => .ok none ev
  | .so e, ev => (evE c e ev).bind fun r e1 => match rd e1 r with
    | some (.int i) => .ok (some i) e1
    | _ => .bad
def evC (c : Cf) : C → Ev → R Bool
  | .no, ev => .ok true ev
  | .so t, ev => evT c t ev
def evIt (c : Cf) : It → Ev → R (List D)
  | .seq e, ev => (evE c e ev).bind fun r e1 => match esc e1 r with
    | some (d, e2) => R.of e2 (seqOf d)
    | none => .bad
  | .rng a, ev => (evE c a ev).bind fun r e1 => match rd e1 r with
    | some (.int n) => if -(2 ^ 62) ≤ n ∧ n ≤ line then .ok (rngD 0 n.toNat) e1 else .bad
    | _ => .bad
  | .rng2 a b, ev => (evE c a ev).bind fun r e1 => (evE c b e1).bind fun q e2 => match rd e2 (stl r), rd e2 q with
    | some (.int m), some (.int n) => if -(2 ^ 62) ≤ m ∧ m < 2 ^ 62 ∧ -(2 ^ 62) ≤ n ∧ n < 2 ^ 62 ∧ n - m ≤ line then .ok (rngD m (n - m).toNat) e2 else .bad
    | _, _ => .bad
  | .enum e, ev => (evE c e ev).bind fun r e1 => match esc e1 r with
    | some (d, e2) => match d with
      | .list ds => .ok (enumD ds) e2
      | .tuple ds => .ok (enumD ds) e2
      | _ => .bad
    | none => .bad
  | .zip a b, ev => (evE c a ev).bind fun r e1 => match esc e1 r with
    | some (d, e2) => (evE c b e2).bind fun q e3 => match esc e3 q with
      | some (d2, e4) => match d, d2 with
        | .list xs, .list ys => .ok (zipD xs ys) e4
        | .tuple xs, .tuple ys => .ok (zipD xs ys) e4
        | .list xs, .tuple ys => .ok (zipD xs ys) e4
        | .tuple xs, .list ys => .ok (zipD xs ys) e4
        | _, _ => .bad
      | none => .bad
    | none => .bad
end

/-- a result stored -/
def putR (ev : Ev) (i : Nat) : RV → Option Ev
  | .v d => setV ev i (.sh d)
  | .f o => setV ev i (.ow o)
  | .s j => match esc ev (.s j) with
    | some (d, ev1) => setV ev1 i (.sh d)
    | none => none
/-- a result handed back -/
def retR (ev : Ev) : RV → Option (RV × Ev)
  | .v d => some (.v d, ev)
  | .f o => some (.f o, ev)
  | .s j => match ev[j]? with
    | some (.sh d) => some (.v d, ev)
    | some (.ow o) => some (.f o, ev.set j .no)
    | _ => none

def evHx : Hx → List D → Option RV
  | .fld j _, ds => (ds[j]?).map .v
  | .lst s j _, ds => (ds[j]?).map fun d => .f (.l [.str (Str.ofString s), d])
  | .tup s j _, ds => (ds[j]?).map fun d => .v (.tuple [.str (Str.ofString s), d])
/-- own exception classes: which is below which -/
def subX (x y : String) : Bool := x == y || (y == "ValueError" || (y == "BideError" && x != "Ahead"))
def evHA (x : Exc) : HA → Option D
  | .fld j _ => x.fs[j]?
  | .str s => some (.str (Str.ofString s))
  | .non => some .none
  | .bl b => some (.bool b)
  | .isi c => some (.bool (subX x.c c))
def evHAs (x : Exc) : List HA → Option (List D)
  | [] => some []
  | a :: as => match evHA x a, evHAs x as with
    | some d, some ds => some (d :: ds)
    | _, _ => none
def evHX (x : Exc) : HX → Option RV
  | .one a => (evHA x a).map .v
  | .tup as => (evHAs x as).map fun ds => .v (.tuple ds)
  | .lst as => (evHAs x as).map fun ds => .f (.l ds)
def evHB (x : Exc) : List (List String × HX) → HX → Option RV
  | [], el => evHX x el
  | (cs, h) :: ts, el => if cs.all (subX x.c) = true then evHX x h else evHB x ts el
def evHds (x : Exc) : List Hd → Option (Option RV)
  | [] => some none
  | h :: hs => if subX x.c h.c = true then (evHB x h.ts h.el).map some else evHds x hs
def slotsB (ev : Ev) (hs : List Hd) : Bool := hs.all fun h => match h.sl with
  | some i => decide (i < ev.length)
  | none => true
mutual
def evS (c : Cf) : S → Ev → R Fl
  | .asg i e, ev => (evE c e ev).bind fun r e1 => match putR e1 i r with
    | some e2 => .ok .nx e2
    | none => .bad
  | .unp is e, ev => (evE c e ev).bind fun r e1 => match esc e1 r with
    | some (.tuple ds, e2) => match setVs e2 is ds with
      | some e3 => .ok .nx e3
      | none => .bad
    | _ => .bad
  | .unl is e, ev => (evE c e ev).bind fun r e1 => match esc e1 r with
    | some (.list ds, e2) => match setVs e2 is ds with
      | some e3 => .ok .nx e3
      | none => .bad
    | _ => .bad
  | .sti i a v, ev => (evE c v ev).bind fun r e1 => match esc e1 r with
    | some (d, e2) => match ownL e2[i]? with
      | some _ => (evE c a e2).bind fun q e3 => match rd e3 q, ownL e3[i]? with
        | some (.int j), some xs => match setAt xs j d with
          | some ys => .ok .nx (putL e3 i ys)
          | none => .bad
        | _, _ => .bad
      | none => .bad
    | none => .bad
  | .st2 i a j v, ev => (evE c v ev).bind fun r e1 => match esc e1 r with
    | some (d, e2) => match ownLL e2[i]? with
      | some _ => (evE c a e2).bind fun q e3 => match rd e3 q, ownLL e3[i]?, rd e3 (.s j) with
        | some (.int m), some xss, some (.int n) => match atD xss m with
          | some xs => match setAt xs n d with
            | some ys => match setAt xss m ys with
              | some yss => .ok .nx (e3.set i (.ow (.ll yss)))
              | none => .bad
            | none => .bad
          | none => .bad
        | _, _, _ => .bad
      | none => .bad
    | none => .bad
  | .std i k v, ev => (evE c v ev).bind fun r e1 => match esc e1 r with
    | some (d, e2) => match e2[i]? with
      | some (.ow _) => (evE c k e2).bind fun q e3 => match esc e3 q with
        | some (x, e4) => match e4[i]? with
          | some (.ow (.d t kvs)) => if keyOkT t x = true ∧ kvs.length < line then .ok .nx (e4.set i (.ow (.d t (putKV kvs x d)))) else .bad
          | _ => .bad
        | none => .bad
      | _ => .bad
    | none => .bad
  | .xpr e, ev => (evE c e ev).bind fun _ e1 => .ok .nx e1
  | .ife t a b, ev => (evT c t ev).bind fun k e1 => match k with
    | true => evSs c a e1
    | false => evSs c b e1
  | .forr tg tup it b, ev => (evIt c it ev).bind fun ds e1 => forL tg tup (evSs c b) ds e1
  | .fork tg tup i b, ev => match keysE ev i with
    | some (ds, e1) => noX (forL tg tup (evSs c b) ds e1)
    | none => .bad
  | .whl n t b, ev => whlL (evT c t) (evSs c b) n ev
  | .ret e, ev => (evE c e ev).bind fun r e1 => match retR e1 r with
    | some (q, e2) => .ok (.rt q) e2
    | none => .bad
  | .retN, ev => .ok (.rt (.v .none)) ev
  | .rse x es, ev => (evEs c es ev).bind fun rs e1 => match escs e1 rs with
    | some (ds, e2) => .ex ⟨x, ds⟩ e2
    | none => .bad
  | .trx b x i h, ev => match evSs c b ev with
    | .ex e ev1 => if e.c = x then (match ev1[i]?, evHx h e.fs with
      | some _, some r => .ok (.rt r) ev1
      | _, _ => .bad) else .ex e ev1
    | .ok f ev1 => .ok f ev1
    | .bad => .bad
  | .trm b hs, ev => match evSs c b ev with
    | .ex e ev1 => match slotsB ev1 hs, evHds e hs with
      | true, some (some r) => .ok (.rt r) ev1
      | true, some none => .ex e ev1
      | _, _ => .bad
    | .ok f ev1 => .ok f ev1
    | .bad => .bad
  | .unn is js e, ev => (evE c e ev).bind fun r e1 => match esc e1 r with
    | some (.tuple (.tuple xs :: ds), e2) => match setVs e2 is xs with
      | some e3 => match setVs e3 js ds with
        | some e4 => .ok .nx e4
        | none => .bad
      | none => .bad
    | _ => .bad
  | .sw2 i a b v u, ev => (evE c v ev).bind fun r e1 => (evE c u e1).bind fun q e2 => match rd e2 (stl r), rd e2 (stl q) with
    | some x, some y => match ownL e2[i]? with
      | some _ => (evE c a e2).bind fun s e3 => match rd e3 s, ownL e3[i]? with
        | some (.int j), some xs => match setAt xs j x with
          | some ys => (evE c b (putL e3 i ys)).bind fun s2 e4 => match rd e4 s2, ownL e4[i]? with
            | some (.int k), some zs => match setAt zs k y with
              | some ws => .ok .nx (putL e4 i ws)
              | none => .bad
            | _, _ => .bad
          | none => .bad
        | _, _ => .bad
      | none => .bad
    | _, _ => .bad
  | .pass, ev => .ok .nx ev
  | .brk, ev => .ok .br ev
  | .cont, ev => .ok .ct ev
  | .nev, _ => .bad
def evSs (c : Cf) : Ss → Ev → R Fl
  | .nil, ev => .ok .nx ev
  | .cons a b, ev => (evS c a ev).bind fun f e1 => match f with
    | .nx => evSs c b e1
    | f => .ok f e1
end

/-- the slots at a function's entry -/
def startE : List Bool → List D → Option Ev
  | [], [] => some []
  | false :: bs, d :: ds => (startE bs ds).map (.sh d :: ·)
  | true :: bs, .list xs :: ds => (startE bs ds).map (.io xs :: ·)
  | _, _ => none
def outsE : Ev → List Bool → Option (List (List D))
  | _, [] => some []
  | _ :: ev, false :: bs => outsE ev bs
  | .io xs :: ev, true :: bs => (outsE ev bs).map (xs :: ·)
  | _, _ => none
/-- a function: its slots' number, the lent ones among its parameters, its body -/
def runF (c : Cf) (n : Nat) (io : List Bool) (b : Ss) (ds : List D) : FR :=
  match startE io ds with
  | none => .bad
  | some ev => match evSs c b (ev ++ List.replicate (n - ev.length) .no) with
    | .ok .nx e => match outsE e io with
      | some o => .ok (.v .none) o
      | none => .bad
    | .ok (.rt (.v d)) e => match outsE e io with
      | some o => .ok (.v d) o
      | none => .bad
    | .ok (.rt (.f d)) e => match outsE e io with
      | some o => .ok (.f d) o
      | none => .bad
    | .ex x _ => .ex x
    | _ => .bad
def mkF (c : Cf) (n : Nat) (io : List Bool) (b : Ss) : Fn := ⟨io, runF c n io b⟩
end Bide

set_option autoImplicit false
/-! Defs as core texts. -/
namespace Bide
open PySem
structure Def where
  x : String
  N : List String
  np : Nat
  io : List Bool
  rc : Nat
  body : Ss
def Def.fn (c : Cf) (d : Def) : Fn := mkF c d.N.length d.io d.body
def Cf.put (c : Cf) (x : String) (F : Fn) : Cf := { c with G := fun y => if y = x then some F else c.G y }
/-- calls itself at most so often -/
def Def.again (c : Cf) (d : Def) : Nat → Fn
  | 0 => ⟨d.io, fun _ => .bad⟩
  | n + 1 => d.fn (c.put d.x (d.again c n))
def Def.F (c : Cf) (d : Def) : Fn := match d.rc with
  | 0 => d.fn c
  | n + 1 => d.again c (n + 1)
def Def.add (c : Cf) (d : Def) : Cf := c.put d.x (d.F c)
def Def.cost (d : Def) : Nat := match d.rc with
  | 0 => 1
  | n + 1 => n + 1
end Bide

set_option autoImplicit false
set_option Elab.async false
set_option maxRecDepth 100000
set_option linter.all false
/-! How plain data lies in the abstract heap. -/
namespace Bide
open PySem L2

/-- a key of a dict, as data -/
def keyD : Key → D
  | .inl i => .int i
  | .inr x => .str x
mutual
/-- a value shows data; what it leans on stands in Z -/
inductive Rp (K : PySem.W.Frag) (Z : Hp) : V → D → Prop
  | non : Rp K Z .non .none
  | bl (b : Bool) : Rp K Z (.bl b) (.bool b)
  | int (i : Int) : Rp K Z (.int i) (.int i)
  | str (x : Str) : Rp K Z (.str x) (.str x)
  | lst {a : Addr} {xs : List V} {ds : List D} : Z a = some (.lst xs) → xs.length ≤ sizeLine → Rps K Z xs ds → Rp K Z (.ref a) (.list ds)
  | tup {a : Addr} {xs : List V} {ds : List D} : Z a = some (.tup xs) → xs.length ≤ sizeLine → Rps K Z xs ds → Rp K Z (.ref a) (.tuple ds)
  | ktup {a : Addr} {xs : List V} {ds : List D} : SqT K (fun _ => none) a xs → xs.length ≤ sizeLine → Rps K Z xs ds → Rp K Z (.ref a) (.dict [(.none, .tuple ds)])
  | scr {a : Addr} {xs : List V} {ds : List D} : SqL K Z a xs → xs.length ≤ sizeLine → Rps K Z xs ds → Rp K Z (.ref a) (.dict [(.none, .list ds)])
  | dk {a : Addr} {ks : List (Key × V)} {kvs : List (D × D)} : Rd Z a (.dK ks) → ks.length ≤ sizeLine → RpK K Z ks kvs → Rp K Z (.ref a) (.dict ((.bool false, .none) :: kvs))
  | dt {a : Addr} {ks : List (List Key × V)} {kvs : List (D × D)} : Rd Z a (.dT ks) → ks.length ≤ sizeLine → RpT K Z ks kvs → Rp K Z (.ref a) (.dict ((.bool true, .none) :: kvs))
inductive Rps (K : PySem.W.Frag) (Z : Hp) : List V → List D → Prop
  | nil : Rps K Z [] []
  | cons {v : V} {vs : List V} {d : D} {ds : List D} : Rp K Z v d → Rps K Z vs ds → Rps K Z (v :: vs) (d :: ds)
inductive RpK (K : PySem.W.Frag) (Z : Hp) : List (Key × V) → List (D × D) → Prop
  | nil : RpK K Z [] []
  | cons {k : Key} {v : V} {vs : List (Key × V)} {d : D} {ds : List (D × D)} : Rp K Z v d → RpK K Z vs ds → RpK K Z ((k, v) :: vs) ((keyD k, d) :: ds)
inductive RpT (K : PySem.W.Frag) (Z : Hp) : List (List Key × V) → List (D × D) → Prop
  | nil : RpT K Z [] []
  | cons {k : List Key} {v : V} {vs : List (List Key × V)} {d : D} {ds : List (D × D)} : k.length ≤ sizeLine → Rp K Z v d → RpT K Z vs ds → RpT K Z ((k, v) :: vs) ((.tuple (k.map keyD), d) :: ds)
end

section
variable {K : PySem.W.Frag} {Z Z' H : Hp}
theorem rd_same {a : Addr} {u : HO} (e : Same Z Z') (h : Rd Z a u) : Rd Z' a u := by
  rcases h with h | ⟨o, h⟩
  · exact .inl (e _ _ h)
  · exact .inr ⟨o, e _ _ h⟩
theorem sqL_same {a : Addr} {xs : List V} (e : Same Z Z') (h : SqL K Z a xs) : SqL K Z' a xs := e.seq h
theorem sqT_same {a : Addr} {xs : List V} (e : Same Z Z') (h : SqT K Z a xs) : SqT K Z' a xs := by
  rcases h with (h | ⟨o, h⟩) | h
  · exact .inl (.inl (e _ _ h))
  · exact .inl (.inr ⟨o, e _ _ h⟩)
  · exact .inr h
mutual
theorem Rp.mono (s : Same Z Z') : ∀ {v : V} {d : D}, Rp K Z v d → Rp K Z' v d
  | _, _, .non => .non
  | _, _, .bl b => .bl b
  | _, _, .int i => .int i
  | _, _, .str x => .str x
  | _, _, .lst h l r => .lst (s _ _ h) l (Rps.mono s r)
  | _, _, .scr h l r => .scr (sqL_same s h) l (Rps.mono s r)
  | _, _, .tup h l r => .tup (s _ _ h) l (Rps.mono s r)
  | _, _, .ktup h l r => .ktup h l (Rps.mono s r)
  | _, _, .dk h l r => .dk (rd_same s h) l (RpK.mono s r)
  | _, _, .dt h l r => .dt (rd_same s h) l (RpT.mono s r)
theorem Rps.mono (s : Same Z Z') : ∀ {v : List V} {d : List D}, Rps K Z v d → Rps K Z' v d
  | _, _, .nil => .nil
  | _, _, .cons h r => .cons (Rp.mono s h) (Rps.mono s r)
theorem RpK.mono (s : Same Z Z') : ∀ {v : List (Key × V)} {d : List (D × D)}, RpK K Z v d → RpK K Z' v d
  | _, _, .nil => .nil
  | _, _, .cons h r => .cons (Rp.mono s h) (RpK.mono s r)
theorem RpT.mono (s : Same Z Z') : ∀ {v : List (List Key × V)} {d : List (D × D)}, RpT K Z v d → RpT K Z' v d
  | _, _, .nil => .nil
  | _, _, .cons l h r => .cons l (Rp.mono s h) (RpT.mono s r)
end
theorem Rps.length : ∀ {v : List V} {d : List D}, Rps K Z v d → v.length = d.length
  | _, _, .nil => rfl
  | _, _, .cons _ r => by simp [Rps.length r]
theorem Rps.append : ∀ {v w : List V} {d e : List D}, Rps K Z v d → Rps K Z w e → Rps K Z (v ++ w) (d ++ e)
  | _, _, _, _, .nil, h => h
  | _, _, _, _, .cons h r, q => .cons h (Rps.append r q)
theorem Rps.rev : ∀ {v : List V} {d : List D}, Rps K Z v d → Rps K Z v.reverse d.reverse
  | _, _, .nil => .nil
  | _, _, .cons h r => by rw [List.reverse_cons, List.reverse_cons]; exact r.rev.append (.cons h .nil)
theorem Rps.get : ∀ {v : List V} {d : List D} {i : Nat} {x : V}, Rps K Z v d → v[i]? = some x → ∃ y, d[i]? = some y ∧ Rp K Z x y
  | _, _, _, _, .nil, e => by simp at e
  | _, _, 0, _, .cons h r, e => by simp at e; subst e; exact ⟨_, rfl, h⟩
  | _, _, i + 1, x, .cons h r, e => by
    obtain ⟨y, h1, h2⟩ := Rps.get (i := i) r (by simpa using e)
    exact ⟨y, by simpa using h1, h2⟩
theorem Rps.getD : ∀ {v : List V} {d : List D} {i : Nat} {y : D}, Rps K Z v d → d[i]? = some y → ∃ x, v[i]? = some x ∧ Rp K Z x y
  | _, _, _, _, .nil, e => by simp at e
  | _, _, 0, _, .cons h r, e => by simp at e; subst e; exact ⟨_, rfl, h⟩
  | _, _, i + 1, x, .cons h r, e => by
    obtain ⟨y, h1, h2⟩ := Rps.getD (i := i) r (by simpa using e)
    exact ⟨y, by simpa using h1, h2⟩
theorem Rps.set : ∀ {v : List V} {d : List D} (i : Nat) {x : V} {y : D}, Rps K Z v d → Rp K Z x y → Rps K Z (v.set i x) (d.set i y)
  | _, _, _, _, _, .nil, _ => .nil
  | _, _, 0, _, _, .cons h r, q => .cons q r
  | _, _, i + 1, _, _, .cons h r, q => .cons h (Rps.set i r q)
theorem Rps.drop : ∀ {v : List V} {d : List D} (n : Nat), Rps K Z v d → Rps K Z (v.drop n) (d.drop n)
  | _, _, 0, r => r
  | _, _, _ + 1, .nil => .nil
  | _, _, n + 1, .cons _ r => Rps.drop n r
theorem Rps.take : ∀ {v : List V} {d : List D} (n : Nat), Rps K Z v d → Rps K Z (v.take n) (d.take n)
  | _, _, 0, _ => .nil
  | _, _, _ + 1, .nil => .nil
  | _, _, n + 1, .cons h r => .cons h (Rps.take n r)
theorem Rps.erase : ∀ {v : List V} {d : List D} (n : Nat), Rps K Z v d → Rps K Z (v.eraseIdx n) (d.eraseIdx n)
  | _, _, _, .nil => .nil
  | _, _, 0, .cons _ r => r
  | _, _, n + 1, .cons h r => .cons h (Rps.erase n r)
theorem Rps.dropLast {v : List V} {d : List D} (r : Rps K Z v d) : Rps K Z v.dropLast d.dropLast := by
  rw [List.dropLast_eq_take, List.dropLast_eq_take, r.length]
  exact r.take _
theorem Rps.rep {v : List V} {d : List D} (r : Rps K Z v d) : ∀ n : Nat, Rps K Z (List.replicate n v).flatten (List.replicate n d).flatten
  | 0 => .nil
  | n + 1 => by
    rw [List.replicate_succ, List.replicate_succ, List.flatten_cons, List.flatten_cons]
    exact r.append (Rps.rep r n)
theorem Rps.ints : ∀ {v : List V} {d : List D} {ns : List Int}, Rps K Z v d → Bide.intsL d = some ns → v = ns.map V.int
  | _, _, _, .nil, e => by
    simp [Bide.intsL] at e
    subst e; rfl
  | _, _, _, .cons (d := d) (ds := ds) h r, e => by
    cases d <;> try (simp [Bide.intsL] at e)
    obtain ⟨ms, h1, h2⟩ := e
    subst h2
    cases h
    rw [Rps.ints r h1]; rfl
theorem Rps.bls : ∀ {v : List V} {d : List D} {ns : List Bool}, Rps K Z v d → Bide.bls d = some ns → v = ns.map V.bl
  | _, _, _, .nil, e => by
    simp [Bide.bls] at e
    subst e; rfl
  | _, _, _, .cons (d := d) (ds := ds) h r, e => by
    cases d <;> try (simp [Bide.bls] at e)
    obtain ⟨ms, h1, h2⟩ := e
    subst h2
    cases h
    rw [Rps.bls r h1]; rfl
theorem Rps.ofInts : ∀ (ns : List Int), Rps K Z (ns.map V.int) (ns.map PyData.int)
  | [] => .nil
  | _ :: r => .cons (.int _) (Rps.ofInts r)

/-! ### data without dicts, as the deep comparison wants it -/
mutual
theorem Rp.dp (s : Same Z H) : ∀ {v : V} {d : D}, Rp K Z v d → d.canLay0 = true → Dp K H v d
  | _, _, .non, _ => .non
  | _, _, .bl b, _ => .bl b
  | _, _, .int i, _ => .int i
  | _, _, .str x, _ => .str x
  | _, _, .scr .., c => by simp [PyData.canLay0] at c
  | _, _, .lst h _ r, c => .lst (.inl (.inl (s _ _ h))) (Rps.dp s r (by simpa [PyData.canLay0] using c))
  | _, _, .ktup .., c => by simp [PyData.canLay0] at c
  | _, _, .tup h _ r, c => .tup (.inl (.inl (s _ _ h))) (Rps.dp s r (by simpa [PyData.canLay0] using c))
  | _, _, .dk .., c => by simp [PyData.canLay0] at c
  | _, _, .dt .., c => by simp [PyData.canLay0] at c
theorem Rps.dp (s : Same Z H) : ∀ {v : List V} {d : List D}, Rps K Z v d → PyData.canLayAll0 d = true → DpAll K H v d
  | _, _, .nil, _ => .nil
  | _, _, .cons (d := d) (ds := ds) h r, c => by
    have c' : d.canLay0 = true ∧ PyData.canLayAll0 ds = true := by simpa [PyData.canLayAll0] using c
    exact .cons (Rp.dp s h c'.1) (Rps.dp s r c'.2)
end

/-! ### what one name alone holds -/
/-- an owned object at a: as are its own addresses -/
def OC (K : PySem.W.Frag) (Z H : Hp) (as : List Addr) (a : Addr) : OV → Prop
  | .l ds => as = [a] ∧ ∃ xs, H a = some (.lst xs) ∧ xs.length ≤ sizeLine ∧ Rps K Z xs ds
  | .d false kvs => as = [a] ∧ ∃ ks, H a = some (.dK ks) ∧ ks.length ≤ sizeLine ∧ RpK K Z ks kvs
  | .d true kvs => as = [a] ∧ ∃ ks, H a = some (.dT ks) ∧ ks.length ≤ sizeLine ∧ RpT K Z ks kvs
  | .ll dss => ∃ bs, as = a :: bs ∧ H a = some (.lst (bs.map V.ref)) ∧ bs.length ≤ sizeLine ∧ bs.length = dss.length ∧
      ∀ (i : Nat) b ds, bs[i]? = some b → dss[i]? = some ds → ∃ xs, H b = some (.lst xs) ∧ xs.length ≤ sizeLine ∧ Rps K Z xs ds
theorem OC.mem {as : List Addr} {a : Addr} {o : OV} (h : OC K Z H as a o) : a ∈ as := by
  cases o with
  | l ds => rw [h.1]; exact List.mem_singleton.mpr rfl
  | d t kvs => cases t <;> (rw [h.1]; exact List.mem_singleton.mpr rfl)
  | ll dss => obtain ⟨bs, e, _⟩ := h; rw [e]; exact List.mem_cons_self
theorem OC.alive {as : List Addr} {a : Addr} {o : OV} (h : OC K Z H as a o) : ∀ b ∈ as, H b ≠ none := by
  intro b hb
  cases o with
  | l ds =>
    obtain ⟨e, xs, h1, _⟩ := h
    rw [e] at hb
    cases List.mem_singleton.mp hb
    rw [h1]; simp
  | d t kvs =>
    cases t
    · obtain ⟨e, xs, h1, _⟩ := h
      rw [e] at hb
      cases List.mem_singleton.mp hb
      rw [h1]; simp
    · obtain ⟨e, xs, h1, _⟩ := h
      rw [e] at hb
      cases List.mem_singleton.mp hb
      rw [h1]; simp
  | ll dss =>
    obtain ⟨bs, e, h1, _, hl, hr⟩ := h
    rw [e] at hb
    rcases List.mem_cons.mp hb with rfl | hb
    · rw [h1]; simp
    · obtain ⟨i, hi⟩ := List.mem_iff_getElem?.mp hb
      have hlt : i < dss.length := by
        rw [← hl]
        exact (List.getElem?_eq_some_iff.mp hi).1
      obtain ⟨xs, h2, _⟩ := hr i b dss[i] hi (List.getElem?_eq_getElem hlt)
      rw [h2]; simp
theorem OC.lstLike {as : List Addr} {a : Addr} {o : OV} (h : OC K Z H as a o) : ∀ b ∈ as, ∀ xs, H b ≠ some (.tup xs) := by
  intro b hb xs hx
  cases o with
  | l ds =>
    obtain ⟨e, ys, h1, _⟩ := h
    rw [e] at hb
    cases List.mem_singleton.mp hb
    rw [h1] at hx; cases hx
  | d t kvs =>
    cases t
    · obtain ⟨e, ys, h1, _⟩ := h
      rw [e] at hb
      cases List.mem_singleton.mp hb
      rw [h1] at hx; cases hx
    · obtain ⟨e, ys, h1, _⟩ := h
      rw [e] at hb
      cases List.mem_singleton.mp hb
      rw [h1] at hx; cases hx
  | ll dss =>
    obtain ⟨bs, e, h1, _, hl, hr⟩ := h
    rw [e] at hb
    rcases List.mem_cons.mp hb with rfl | hb
    · rw [h1] at hx; cases hx
    · obtain ⟨i, hi⟩ := List.mem_iff_getElem?.mp hb
      have hlt : i < dss.length := by
        rw [← hl]
        exact (List.getElem?_eq_some_iff.mp hi).1
      obtain ⟨ys, h2, _⟩ := hr i b dss[i] hi (List.getElem?_eq_getElem hlt)
      rw [h2] at hx; cases hx
theorem OC.mono {Z' H' : Hp} {as : List Addr} {a : Addr} {o : OV} (h : OC K Z H as a o) (s : Same Z Z') (k : ∀ b ∈ as, ∀ u, H b = some u → H' b = some u) : OC K Z' H' as a o := by
  cases o with
  | l ds =>
    obtain ⟨rfl, xs, h1, h2, h3⟩ := h
    exact ⟨rfl, xs, k _ (by simp) _ h1, h2, h3.mono s⟩
  | d t kvs =>
    cases t
    · obtain ⟨rfl, xs, h1, h2, h3⟩ := h
      exact ⟨rfl, xs, k _ (by simp) _ h1, h2, h3.mono s⟩
    · obtain ⟨rfl, xs, h1, h2, h3⟩ := h
      exact ⟨rfl, xs, k _ (by simp) _ h1, h2, h3.mono s⟩
  | ll dss =>
    obtain ⟨bs, rfl, h1, h2, hl, hr⟩ := h
    refine ⟨bs, rfl, k _ (by simp) _ h1, h2, hl, fun i b ds e1 e2 => ?_⟩
    obtain ⟨xs, q1, q2, q3⟩ := hr i b ds e1 e2
    exact ⟨xs, k b (by simp [List.mem_of_getElem? e1]) _ q1, q2, q3.mono s⟩

/-- Z with what stands in H at these addresses -/
def addZ (Z H : Hp) (as : List Addr) : Hp := fun p => if p ∈ as then H p else Z p
theorem addZ_in {as : List Addr} {p : Addr} (h : p ∈ as) : addZ Z H as p = H p := if_pos h
theorem addZ_out {as : List Addr} {p : Addr} (h : p ∉ as) : addZ Z H as p = Z p := if_neg h
theorem addZ_same {as : List Addr} (n : ∀ b ∈ as, Z b = none) : Same Z (addZ Z H as) := fun b o e => by
  have hb : b ∉ as := fun hb => by rw [n b hb] at e; cases e
  rw [addZ_out hb]; exact e
theorem OC.rp {as : List Addr} {a : Addr} {o : OV} (h : OC K Z H as a o) (n : ∀ b ∈ as, Z b = none) : Rp K (addZ Z H as) (.ref a) o.val := by
  have s := addZ_same (H := H) n
  cases o with
  | l ds =>
    obtain ⟨rfl, xs, h1, h2, h3⟩ := h
    exact .lst (by rw [addZ_in (by simp)]; exact h1) h2 (h3.mono s)
  | d t kvs =>
    cases t
    · obtain ⟨rfl, xs, h1, h2, h3⟩ := h
      exact .dk (.inl (by rw [addZ_in (by simp)]; exact h1)) h2 (h3.mono s)
    · obtain ⟨rfl, xs, h1, h2, h3⟩ := h
      exact .dt (.inl (by rw [addZ_in (by simp)]; exact h1)) h2 (h3.mono s)
  | ll dss =>
    obtain ⟨bs, rfl, h1, h2, hl, hr⟩ := h
    refine .lst (by rw [addZ_in (by simp)]; exact h1) (by simpa using h2) ?_
    have key : ∀ (bs' : List Addr) (dss' : List (List D)), bs'.length = dss'.length → (∀ (i : Nat) b ds, bs'[i]? = some b → dss'[i]? = some ds → b ∈ a :: bs ∧ ∃ xs, H b = some (.lst xs) ∧ xs.length ≤ sizeLine ∧ Rps K Z xs ds) →
        Rps K (addZ Z H (a :: bs)) (bs'.map V.ref) (dss'.map PyData.list) := by
      intro bs'
      induction bs' with
      | nil =>
        intro dss' hl' _
        cases dss' with
        | nil => exact .nil
        | cons _ _ => simp at hl'
      | cons b bs' ih =>
        intro dss' hl' hh
        cases dss' with
        | nil => simp at hl'
        | cons ds dss' =>
          obtain ⟨hm, xs, q1, q2, q3⟩ := hh 0 b ds rfl rfl
          refine .cons (.lst (by rw [addZ_in hm]; exact q1) q2 (q3.mono s)) (ih dss' (by simpa using hl') fun i b' ds' e1 e2 => hh (i + 1) b' ds' (by simpa using e1) (by simpa using e2))
    exact key bs dss hl fun i b ds e1 e2 => ⟨by simp [List.mem_of_getElem? e1], hr i b ds e1 e2⟩
end

/-! ### the state of a body -/
/-- a function's entry: the heap, what is shared there, the lent slots with their addresses; what is kept meanwhile -/
structure En where
  H : Hp
  Z : Hp
  P : List (Nat × Addr)
  F : Hp
/-- an address that may be owned -/
def En.own (c : En) (a : Addr) : Prop := (∃ i, (i, a) ∈ c.P) ∨ c.H a = none
def SlR (K : PySem.W.Frag) (Z H : Hp) (x : Option (Option V)) (as : List Addr) : SV → Prop
  | .no => as = []
  | .sh d => as = [] ∧ ∃ v, x = some (some v) ∧ Rp K Z v d
  | .ow o => ∃ a, x = some (some (.ref a)) ∧ OC K Z H as a o
  | .io ds => ∃ a, x = some (some (.ref a)) ∧ OC K Z H as a (.l ds)
/-- a tuple is never owned -/
def HoTup (o : HO) : Prop := ∃ xs, o = .tup xs
structure RS (K : PySem.W.Frag) (c : En) (σ : L2.St) (H Z : Hp) (ev : Ev) (A : Nat → List Addr) : Prop where
  len : σ.length = ev.length
  sub : Same Z H
  z0 : Same c.Z Z
  zf : ∀ p o, Z p = some o → c.Z p = some o ∨ c.H p = none ∨ HoTup o
  fr : ∀ p o, c.H p = some o → (∀ i, (i, p) ∉ c.P) → H p = some o
  sl : ∀ (i : Nat) sv, ev[i]? = some sv → SlR K Z H σ[i]? (A i) sv
  out : ∀ (i : Nat), ev.length ≤ i → A i = []
  zo : ∀ i, ∀ a ∈ A i, Z a = none
  ao : ∀ i, ∀ a ∈ A i, c.own a
  dis : ∀ i j a, a ∈ A i → a ∈ A j → i = j
  nod : ∀ i, (A i).Nodup
  io : ∀ (i : Nat) a, (i, a) ∈ c.P → A i = [a] ∧ ∃ ds, ev[i]? = some (.io ds)
  oi : ∀ (i : Nat) ds, ev[i]? = some (.io ds) → ∃ a, (i, a) ∈ c.P
  pf : ∀ p o, c.F p = some o → H p = some o ∧ Z p = none ∧ ∀ i, p ∉ A i
  ft : ∀ p o, c.F p = some o → ¬ HoTup o
/-- what a result shows -/
def RR (K : PySem.W.Frag) (c : En) (σ : L2.St) (H Z : Hp) (ev : Ev) (A : Nat → List Addr) (x : V) : RV → Prop
  | .v d => Rp K Z x d
  | .s i => σ[i]? = some (some x)
  | .f o => ∃ a as, x = .ref a ∧ OC K Z H as a o ∧ as.Nodup ∧ ∀ b ∈ as, Z b = none ∧ c.H b = none ∧ c.F b = none ∧ ∀ i, b ∉ A i
end Bide

set_option autoImplicit false
set_option Elab.async false
set_option maxRecDepth 100000
set_option linter.all false
/-! How the state of a body changes. -/
namespace Bide
open PySem L2
variable {K : PySem.W.Frag} {c : En} {σ σ' : L2.St} {H H' Z Z' : Hp} {ev : Ev} {A : Nat → List Addr}

def setA (A : Nat → List Addr) (i : Nat) (as : List Addr) : Nat → List Addr := fun j => if j = i then as else A j
theorem setA_same {i : Nat} {as : List Addr} : setA A i as i = as := if_pos rfl
theorem setA_ne {i j : Nat} {as : List Addr} (h : j ≠ i) : setA A i as j = A j := if_neg h
def SV.isIo : SV → Prop
  | .io _ => True
  | _ => False

theorem RS.alive (R : RS K c σ H Z ev A) {i : Nat} {a : Addr} (h : a ∈ A i) : H a ≠ none := by
  by_cases hi : i < ev.length
  · have q := R.sl i ev[i] (List.getElem?_eq_getElem hi)
    revert q
    cases ev[i] with
    | no => intro q; rw [show A i = [] from q] at h; cases h
    | sh d => intro q; rw [q.1] at h; cases h
    | ow o => rintro ⟨b, _, q⟩; exact q.alive a h
    | io ds => rintro ⟨b, _, q⟩; exact q.alive a h
  · rw [R.out i (by omega)] at h; cases h
theorem RS.noTup (R : RS K c σ H Z ev A) {i : Nat} {a : Addr} (h : a ∈ A i) : ∀ o, HoTup o → H a ≠ some o := by
  rintro o ⟨xs, rfl⟩
  by_cases hi : i < ev.length
  · have q := R.sl i ev[i] (List.getElem?_eq_getElem hi)
    revert q
    cases ev[i] with
    | no => intro q; rw [show A i = [] from q] at h; cases h
    | sh d => intro q; rw [q.1] at h; cases h
    | ow o => rintro ⟨b, _, q⟩; exact q.lstLike a h xs
    | io ds => rintro ⟨b, _, q⟩; exact q.lstLike a h xs
  · rw [R.out i (by omega)] at h; cases h
/-- what a lent slot is -/
theorem RS.noP (R : RS K c σ H Z ev A) {i : Nat} {sv : SV} (e : ev[i]? = some sv) (n : ¬ sv.isIo) (a : Addr) : (i, a) ∉ c.P := fun h => by
  obtain ⟨_, ds, q⟩ := R.io i a h
  rw [e] at q
  cases q
  exact n trivial
/-- an owned address of a slot that is not lent is younger than the entry -/
theorem RS.young (R : RS K c σ H Z ev A) {i : Nat} {sv : SV} (e : ev[i]? = some sv) (n : ¬ sv.isIo) {a : Addr} (h : a ∈ A i) : c.H a = none := by
  rcases R.ao i a h with ⟨j, hj⟩ | q
  · have z := (R.io j a hj).1
    have : i = j := R.dis i j a h (by rw [z]; simp)
    subst this
    exact absurd hj (R.noP e n a)
  · exact q
theorem RS.dead (R : RS K c σ H Z ev A) {p : Addr} (h : H p = none) : c.H p = none := by
  cases q : c.H p with
  | none => rfl
  | some o =>
    by_cases hp : ∃ i, (i, p) ∈ c.P
    · obtain ⟨i, hi⟩ := hp
      have z := (R.io i p hi).1
      exact absurd h (R.alive (i := i) (by rw [z]; simp))
    · have := R.fr p o q fun i hi => hp ⟨i, hi⟩
      rw [h] at this; cases this
theorem SlR.mono {x : Option (Option V)} {as : List Addr} {sv : SV} (q : SlR K Z H x as sv) (s : Same Z Z') (k : ∀ b ∈ as, ∀ u, H b = some u → H' b = some u) : SlR K Z' H' x as sv := by
  cases sv with
  | no => exact q
  | sh d => obtain ⟨q0, v, q1, q2⟩ := q; exact ⟨q0, v, q1, q2.mono s⟩
  | ow o => obtain ⟨a, q1, q2⟩ := q; exact ⟨a, q1, q2.mono s k⟩
  | io ds => obtain ⟨a, q1, q2⟩ := q; exact ⟨a, q1, q2.mono s k⟩
/-- the heap grows, something is shared -/
theorem RS.ext (R : RS K c σ H Z ev A) (s : Same Z Z') (sub : Same Z' H') (zf : ∀ p o, Z' p = some o → Z p = some o ∨ H p = none ∨ HoTup o) (k : Same H H') : RS K c σ H' Z' ev A where
  len := R.len
  sub := sub
  z0 := R.z0.trans s
  zf := fun p o e => by
    rcases zf p o e with q | q | q
    · exact R.zf p o q
    · exact .inr (.inl (R.dead q))
    · exact .inr (.inr q)
  fr := fun p o e n => k p o (R.fr p o e n)
  sl := fun i sv e => (R.sl i sv e).mono s fun b _ u q => k b u q
  out := R.out
  zo := fun i a h => by
    cases q : Z' a with
    | none => rfl
    | some o =>
      rcases zf a o q with z | z | z
      · rw [R.zo i a h] at z; cases z
      · exact absurd z (R.alive h)
      · cases y : H a with
        | none => exact absurd y (R.alive h)
        | some u =>
          have e := k a u y
          rw [sub a o q] at e
          cases e
          exact absurd y (R.noTup h o z)
  ao := R.ao
  dis := R.dis
  nod := R.nod
  io := R.io
  oi := R.oi
  pf := fun p o e => by
    obtain ⟨h1, h2, h3⟩ := R.pf p o e
    refine ⟨k p o h1, ?_, h3⟩
    cases q : Z' p with
    | none => rfl
    | some u =>
      rcases zf p u q with z | z | z
      · rw [h2] at z; cases z
      · rw [h1] at z; cases z
      · have y := k p o h1
        rw [sub p u q] at y
        cases y
        exact absurd z (R.ft p o e)
  ft := R.ft
/-- one slot anew -/
theorem RS.slotNew (R : RS K c σ H Z ev A) {i : Nat} {sv : SV} {as : List Addr} (hi : i < ev.length) (hl : σ'.length = σ.length) (ho : ∀ j, j ≠ i → σ'[j]? = σ[j]?) (s : Same Z Z') (sub : Same Z' H')
    (zf : ∀ p o, Z' p = some o → Z p = some o ∨ c.H p = none ∨ HoTup o) (kp : ∀ j, j ≠ i → ∀ b ∈ A j, ∀ u, H b = some u → H' b = some u)
    (fr : ∀ p o, c.H p = some o → (∀ i, (i, p) ∉ c.P) → H p = some o → H' p = some o) (zo : ∀ j, j ≠ i → ∀ b ∈ A j, Z' b = none)
    (new : SlR K Z' H' σ'[i]? as sv) (azo : ∀ b ∈ as, Z' b = none) (ao : ∀ b ∈ as, c.own b) (dis : ∀ b ∈ as, ∀ j, j ≠ i → b ∉ A j) (nod : as.Nodup)
    (io : ((∀ a, (i, a) ∉ c.P) ∧ ¬ sv.isIo) ∨ (as = A i ∧ sv.isIo ∧ ∃ a, (i, a) ∈ c.P)) (pf : ∀ p o, c.F p = some o → H' p = some o ∧ Z' p = none ∧ p ∉ as) : RS K c σ' H' Z' (ev.set i sv) (setA A i as) where
  len := by rw [hl, List.length_set]; exact R.len
  sub := sub
  z0 := R.z0.trans s
  zf := fun p o e => by
    rcases zf p o e with q | q
    · exact R.zf p o q
    · exact .inr q
  fr := fun p o e n => fr p o e n (R.fr p o e n)
  sl := fun j sw e => by
    by_cases h : j = i
    · subst h
      rw [List.getElem?_set_self hi] at e
      cases e
      rw [setA_same]; exact new
    · rw [List.getElem?_set_ne (Ne.symm h)] at e
      rw [setA_ne h, ho j h]
      exact (R.sl j sw e).mono s fun b hb u q => kp j h b hb u q
  out := fun j hj => by
    rw [List.length_set] at hj
    rw [setA_ne (by omega)]
    exact R.out j hj
  zo := fun j a h => by
    by_cases e : j = i
    · subst e; rw [setA_same] at h; exact azo a h
    · rw [setA_ne e] at h; exact zo j e a h
  ao := fun j a h => by
    by_cases e : j = i
    · subst e; rw [setA_same] at h; exact ao a h
    · rw [setA_ne e] at h; exact R.ao j a h
  dis := fun j k a h1 h2 => by
    by_cases e : j = i
    · subst e
      rw [setA_same] at h1
      by_cases e' : k = j
      · exact e'.symm
      · rw [setA_ne e'] at h2; exact absurd h2 (dis a h1 k e')
    · rw [setA_ne e] at h1
      by_cases e' : k = i
      · subst e'; rw [setA_same] at h2; exact absurd h1 (dis a h2 j e)
      · rw [setA_ne e'] at h2; exact R.dis j k a h1 h2
  nod := fun j => by
    by_cases e : j = i
    · subst e; rw [setA_same]; exact nod
    · rw [setA_ne e]; exact R.nod j
  io := fun j a h => by
    by_cases e : j = i
    · subst e
      rcases io with ⟨q, _⟩ | ⟨q1, q2, q3⟩
      · exact absurd h (q a)
      · rw [setA_same, q1]
        refine ⟨(R.io j a h).1, ?_⟩
        rw [List.getElem?_set_self hi]
        cases sv with
        | io ds => exact ⟨ds, rfl⟩
        | _ => exact q2.elim
    · rw [setA_ne e, List.getElem?_set_ne (Ne.symm e)]
      exact R.io j a h
  oi := fun j ds h => by
    by_cases e : j = i
    · subst e
      rw [List.getElem?_set_self hi] at h
      cases h
      rcases io with ⟨_, q⟩ | ⟨_, _, q⟩
      · exact (q trivial).elim
      · exact q
    · rw [List.getElem?_set_ne (Ne.symm e)] at h
      exact R.oi j ds h
  pf := fun p o e => by
    obtain ⟨h1, h2, h3⟩ := pf p o e
    refine ⟨h1, h2, fun j => ?_⟩
    by_cases z : j = i
    · subst z; rw [setA_same]; exact h3
    · rw [setA_ne z]; exact (R.pf p o e).2.2 j
  ft := R.ft

/-- a new object that nobody holds is shared -/
theorem RS.settle (R : RS K c σ H Z ev A) {x : V} {o : OV} (q : RR K c σ H Z ev A x (.f o)) : ∃ Z', Same Z Z' ∧ RS K c σ H Z' ev A ∧ Rp K Z' x o.val := by
  obtain ⟨a, as, rfl, h1, nd, h2⟩ := q
  have s : Same Z (addZ Z H as) := addZ_same fun b hb => (h2 b hb).1
  refine ⟨addZ Z H as, s, ?_, h1.rp fun b hb => (h2 b hb).1⟩
  exact {
    len := R.len
    sub := fun p o e => by
      by_cases h : p ∈ as
      · rw [addZ_in h] at e; exact e
      · rw [addZ_out h] at e; exact R.sub p o e
    z0 := R.z0.trans s
    zf := fun p o e => by
      by_cases h : p ∈ as
      · exact .inr (.inl (h2 p h).2.1)
      · rw [addZ_out h] at e; exact R.zf p o e
    fr := R.fr
    sl := fun i sv e => (R.sl i sv e).mono s fun _ _ _ q => q
    out := R.out
    zo := fun i b h => by
      rw [addZ_out fun hb => (h2 b hb).2.2.2 i h]
      exact R.zo i b h
    ao := R.ao
    dis := R.dis
    nod := R.nod
    io := R.io
    oi := R.oi
    pf := fun p o e => by
      obtain ⟨q1, q2, q3⟩ := R.pf p o e
      refine ⟨q1, ?_, q3⟩
      rw [addZ_out fun hb => by rw [(h2 p hb).2.2.1] at e; cases e]
      exact q2
    ft := R.ft }
/-- an owned object is shared -/
theorem RS.share (R : RS K c σ H Z ev A) {i : Nat} {o : OV} (e : ev[i]? = some (.ow o)) :
    ∃ Z' x, σ[i]? = some (some x) ∧ Same Z Z' ∧ RS K c σ H Z' (ev.set i (.sh o.val)) (setA A i []) ∧ Rp K Z' x o.val := by
  obtain ⟨a, ha, h1⟩ := R.sl i _ e
  have hi : i < ev.length := (List.getElem?_eq_some_iff.mp e).1
  have z := R.zo i
  have s : Same Z (addZ Z H (A i)) := addZ_same z
  have rp := h1.rp z
  refine ⟨addZ Z H (A i), .ref a, ha, s, ?_, rp⟩
  refine R.slotNew hi rfl (fun _ _ => rfl) s (fun p o e => ?_) (fun p o e' => ?_) (fun _ _ _ _ _ q => q) (fun _ _ _ _ q => q) (fun j hj b hb => ?_) ⟨rfl, _, ha, rp⟩ (fun _ h => by cases h) (fun _ h => by cases h) (fun _ h => by cases h) List.nodup_nil
    (.inl ⟨R.noP e id, id⟩) (fun p o q => ?_)
  · by_cases h : p ∈ A i
    · rw [addZ_in h] at e; exact e
    · rw [addZ_out h] at e; exact R.sub p o e
  · by_cases h : p ∈ A i
    · exact .inr (.inl (R.young e id h))
    · rw [addZ_out h] at e'; exact .inl e'
  · rw [addZ_out fun h => hj (R.dis j i b hb h)]
    exact R.zo j b hb
  · obtain ⟨q1, q2, q3⟩ := R.pf p o q
    exact ⟨q1, by rw [addZ_out (q3 i)]; exact q2, fun h => by cases h⟩
/-- a name holds a shared value -/
theorem RS.setSh (R : RS K c σ H Z ev A) {i : Nat} {sv : SV} {x : V} {d : D} (e : ev[i]? = some sv) (n : ¬ sv.isIo) (r : Rp K Z x d) : RS K c (σ.set i (some x)) H Z (ev.set i (.sh d)) (setA A i []) := by
  have hi : i < ev.length := (List.getElem?_eq_some_iff.mp e).1
  have hi' : i < σ.length := by rw [R.len]; exact hi
  refine R.slotNew hi (by simp) (fun j hj => List.getElem?_set_ne (Ne.symm hj)) (Same.refl _) R.sub (fun _ _ q => .inl q) (fun _ _ _ _ _ q => q) (fun _ _ _ _ q => q) (fun j _ b hb => R.zo j b hb) ⟨rfl, x, List.getElem?_set_self hi', r⟩
    (fun _ h => by cases h) (fun _ h => by cases h) (fun _ h => by cases h) List.nodup_nil (.inl ⟨R.noP e n, id⟩) (fun p o q => ⟨(R.pf p o q).1, (R.pf p o q).2.1, fun h => by cases h⟩)
/-- a name holds a new object -/
theorem RS.setOw (R : RS K c σ H Z ev A) {i : Nat} {sv : SV} {x : V} {o : OV} (e : ev[i]? = some sv) (n : ¬ sv.isIo) (r : RR K c σ H Z ev A x (.f o)) : ∃ A', RS K c (σ.set i (some x)) H Z (ev.set i (.ow o)) A' := by
  have hi : i < ev.length := (List.getElem?_eq_some_iff.mp e).1
  have hi' : i < σ.length := by rw [R.len]; exact hi
  obtain ⟨a, as, rfl, h1, nd, h2⟩ := r
  refine ⟨setA A i as, R.slotNew hi (by simp) (fun j hj => List.getElem?_set_ne (Ne.symm hj)) (Same.refl _) R.sub (fun _ _ q => .inl q) (fun _ _ _ _ _ q => q) (fun _ _ _ _ q => q) (fun j _ b hb => R.zo j b hb) ⟨a, List.getElem?_set_self hi', h1⟩
    (fun b h => (h2 b h).1) (fun b h => .inr (h2 b h).2.1) (fun b h j _ => (h2 b h).2.2.2 j) nd (.inl ⟨R.noP e n, id⟩)
    (fun p o q => ⟨(R.pf p o q).1, (R.pf p o q).2.1, fun h => by rw [(h2 p h).2.2.1] at q; cases q⟩)⟩
/-- a name is emptied -/
theorem RS.setNo (R : RS K c σ H Z ev A) {i : Nat} {sv : SV} (e : ev[i]? = some sv) (n : ¬ sv.isIo) : RS K c (σ.set i none) H Z (ev.set i .no) (setA A i []) := by
  have hi : i < ev.length := (List.getElem?_eq_some_iff.mp e).1
  refine R.slotNew hi (by simp) (fun j hj => List.getElem?_set_ne (Ne.symm hj)) (Same.refl _) R.sub (fun _ _ q => .inl q) (fun _ _ _ _ _ q => q) (fun _ _ _ _ q => q) (fun j _ b hb => R.zo j b hb) rfl
    (fun _ h => by cases h) (fun _ h => by cases h) (fun _ h => by cases h) List.nodup_nil (.inl ⟨R.noP e n, id⟩) (fun p o q => ⟨(R.pf p o q).1, (R.pf p o q).2.1, fun h => by cases h⟩)
/-- an owned object is hidden: its name is not read meanwhile -/
theorem RS.hide (R : RS K c σ H Z ev A) {i : Nat} {sv : SV} (e : ev[i]? = some sv) (n : ¬ sv.isIo) : RS K c σ H Z (ev.set i .no) (setA A i []) := by
  have hi : i < ev.length := (List.getElem?_eq_some_iff.mp e).1
  refine R.slotNew hi rfl (fun j hj => rfl) (Same.refl _) R.sub (fun _ _ q => .inl q) (fun _ _ _ _ _ q => q) (fun _ _ _ _ q => q) (fun j _ b hb => R.zo j b hb) rfl
    (fun _ h => by cases h) (fun _ h => by cases h) (fun _ h => by cases h) List.nodup_nil (.inl ⟨R.noP e n, id⟩) (fun p o q => ⟨(R.pf p o q).1, (R.pf p o q).2.1, fun h => by cases h⟩)
theorem setA_self {i : Nat} : setA A i (A i) = A := by
  funext j
  unfold setA
  split
  · rename_i h; rw [h]
  · rfl
/-- an owned object changes, its addresses stay -/
theorem RS.change (R : RS K c σ H Z ev A) {i : Nat} {sv sw : SV} (e : ev[i]? = some sv) (n : (¬ sv.isIo ∧ ¬ sw.isIo) ∨ (sv.isIo ∧ sw.isIo)) (k : ∀ b, b ∉ A i → H' b = H b) (new : SlR K Z H' σ[i]? (A i) sw) :
    RS K c σ H' Z (ev.set i sw) A := by
  have hi : i < ev.length := (List.getElem?_eq_some_iff.mp e).1
  have q := R.slotNew (σ' := σ) (H' := H') (Z' := Z) (as := A i) (sv := sw) hi rfl (fun _ _ => rfl) (Same.refl _) (fun p o e' => ?_) (fun _ _ q => .inl q) (fun j hj b hb u q => ?_) (fun p o e1 e2 e3 => ?_) (fun j _ b hb => R.zo j b hb) new
    (R.zo i) (R.ao i) (fun b hb j hj hb' => hj (R.dis j i b hb' hb)) (R.nod i) ?_ (fun p o q => ⟨?_, (R.pf p o q).2.1, (R.pf p o q).2.2 i⟩)
  · rw [setA_self] at q; exact q
  · by_cases h : p ∈ A i
    · rw [R.zo i p h] at e'; cases e'
    · rw [k p h]; exact R.sub p o e'
  · rw [k b fun h => hj (R.dis j i b hb h)]; exact q
  · by_cases h : p ∈ A i
    · rcases R.ao i p h with ⟨j, q⟩ | q
      · exact absurd q (e2 j)
      · rw [q] at e1; cases e1
    · rw [k p h]; exact e3
  · rcases n with ⟨n1, n2⟩ | ⟨n1, n2⟩
    · exact .inl ⟨R.noP e n1, n2⟩
    · refine .inr ⟨rfl, n2, ?_⟩
      cases sv with
      | io ds => exact R.oi i ds e
      | _ => exact n1.elim
  · rw [k p ((R.pf p o q).2.2 i)]; exact (R.pf p o q).1
/-- a new object -/
theorem RS.fresh (R : RS K c σ H Z ev A) {p : Addr} {o : HO} (hp : H p = none) : RS K c σ (upd H p o) Z ev A :=
  R.ext (Same.refl _) (fun b u e => by rw [upd_ne (ne_of_none (R.sub b u e) hp)]; exact R.sub b u e) (fun _ _ q => .inl q) fun b u e => by rw [upd_ne (ne_of_none e hp)]; exact e
theorem RS.zFree (R : RS K c σ H Z ev A) {p : Addr} (hp : H p = none) : Z p = none := by
  cases q : Z p with
  | none => rfl
  | some o => rw [R.sub p o q] at hp; cases hp
theorem RS.fFree (R : RS K c σ H Z ev A) {p : Addr} (hp : H p = none) : c.F p = none := by
  cases q : c.F p with
  | none => rfl
  | some o => rw [(R.pf p o q).1] at hp; cases hp
theorem RS.notin (R : RS K c σ H Z ev A) {p : Addr} (hp : H p = none) : Z p = none ∧ c.H p = none ∧ c.F p = none ∧ ∀ i, p ∉ A i :=
  ⟨R.zFree hp, R.dead hp, R.fFree hp, fun i h => R.alive h hp⟩
/-- something is kept besides -/
def En.hold (c : En) (H : Hp) (as : List Addr) : En := { c with F := addZ c.F H as }
theorem RS.hold (R : RS K c σ H Z ev A) {as : List Addr} (h : ∀ p ∈ as, H p ≠ none ∧ Z p = none ∧ ∀ i, p ∉ A i) (ht : ∀ p ∈ as, ∀ xs, H p ≠ some (.tup xs)) : RS K (c.hold H as) σ H Z ev A :=
  { R with
    pf := fun q u e => by
      have e' : addZ c.F H as q = some u := e
      by_cases hq : q ∈ as
      · rw [addZ_in hq] at e'
        exact ⟨e', (h q hq).2⟩
      · rw [addZ_out hq] at e'
        exact R.pf q u e'
    ft := fun q u e => by
      have e' : addZ c.F H as q = some u := e
      by_cases hq : q ∈ as
      · rw [addZ_in hq] at e'
        rintro ⟨xs, rfl⟩
        exact ht q hq xs e'
      · rw [addZ_out hq] at e'
        exact R.ft q u e' }
theorem RS.unhold {as : List Addr} (R : RS K (c.hold H as) σ H' Z' ev A) (n : ∀ p ∈ as, c.F p = none) : RS K c σ H' Z' ev A ∧ ∀ p ∈ as, ∀ o, H p = some o → H' p = some o ∧ Z' p = none ∧ ∀ i, p ∉ A i := by
  refine ⟨{ R with pf := fun q u e => R.pf q u ?_, ft := fun q u e => R.ft q u ?_ }, fun p hp o e => R.pf p o ?_⟩
  · show addZ c.F H as q = some u
    rw [addZ_out fun hq => by rw [n q hq] at e; cases e]
    exact e
  · show addZ c.F H as q = some u
    rw [addZ_out fun hq => by rw [n q hq] at e; cases e]
    exact e
  · show addZ c.F H as p = some o
    rw [addZ_in hp]; exact e
/-- what nobody holds may change -/
theorem RS.aside (R : RS K c σ H Z ev A) {p : Addr} {o : HO} (z : Z p = none) (a : ∀ i, p ∉ A i) (h : c.H p = none) (f : c.F p = none) : RS K c σ (upd H p o) Z ev A :=
  { R with
    sub := fun q u e => by rw [upd_ne (fun y => by subst y; rw [z] at e; cases e)]; exact R.sub q u e
    fr := fun q u e n => by rw [upd_ne (fun y => by subst y; rw [h] at e; cases e)]; exact R.fr q u e n
    sl := fun i sv e => (R.sl i sv e).mono (Same.refl _) fun b hb u q => by rw [upd_ne (fun y => by subst y; exact a i hb)]; exact q
    pf := fun q u e => by
      obtain ⟨h1, h2, h3⟩ := R.pf q u e
      exact ⟨by rw [upd_ne (fun y => by subst y; rw [f] at e; cases e)]; exact h1, h2, h3⟩ }
/-- a new object, shared at once -/
theorem RS.freshZ (R : RS K c σ H Z ev A) {p : Addr} {o : HO} (hp : H p = none) : Same Z (upd Z p o) ∧ RS K c σ (upd H p o) (upd Z p o) ev A := by
  have zp := (R.notin hp).1
  have s : Same Z (upd Z p o) := fun b u e => by rw [upd_ne (ne_of_none e zp)]; exact e
  refine ⟨s, R.ext s (fun b u e => ?_) (fun b u e => ?_) fun b u e => by rw [upd_ne (ne_of_none e hp)]; exact e⟩
  · by_cases h : b = p
    · subst h; rw [upd_same] at e ⊢; exact e
    · rw [upd_ne h] at e ⊢; exact R.sub b u e
  · by_cases h : b = p
    · subst h; exact .inr (.inl hp)
    · rw [upd_ne h] at e; exact .inl e
/-- what a slot or value reads as -/
theorem RS.slot (R : RS K c σ H Z ev A) {i : Nat} {sv : SV} (e : ev[i]? = some sv) : SlR K Z H σ[i]? (A i) sv := R.sl i sv e
end Bide

set_option autoImplicit false
set_option Elab.async false
set_option maxRecDepth 100000
set_option linter.all false
/-! Operations by values. -/
namespace Bide
open PySem L2

theorem line_eq : line = sizeLine := by rw [sizeLine_eq]; rfl

/-- what may be read: shared data, or what stands in an owned list or dict -/
def RdV (K : PySem.W.Frag) (Z H : Hp) (x : V) (d : D) : Prop :=
  Rp K Z x d ∨ ∃ a, x = .ref a ∧ ((∃ ds xs, d = .list ds ∧ H a = some (.lst xs) ∧ xs.length ≤ sizeLine ∧ Rps K Z xs ds) ∨
    (∃ kvs ks, d = .dict ((.bool false, .none) :: kvs) ∧ H a = some (.dK ks) ∧ ks.length ≤ sizeLine ∧ RpK K Z ks kvs) ∨ (∃ kvs ks, d = .dict ((.bool true, .none) :: kvs) ∧ H a = some (.dT ks) ∧ ks.length ≤ sizeLine ∧ RpT K Z ks kvs))
section
variable {K : PySem.W.Frag} {Z H Z' H' : Hp} {x : V} {d : D}
theorem RdV.int {i : Int} (h : RdV K Z H x (.int i)) : x = .int i := by
  rcases h with h | ⟨a, _, ⟨_, _, e, _⟩ | ⟨_, _, e, _⟩ | ⟨_, _, e, _⟩⟩
  · cases h; rfl
  all_goals cases e
theorem RdV.bool {i : Bool} (h : RdV K Z H x (.bool i)) : x = .bl i := by
  rcases h with h | ⟨a, _, ⟨_, _, e, _⟩ | ⟨_, _, e, _⟩ | ⟨_, _, e, _⟩⟩
  · cases h; rfl
  all_goals cases e
theorem RdV.none (h : RdV K Z H x .none) : x = .non := by
  rcases h with h | ⟨a, _, ⟨_, _, e, _⟩ | ⟨_, _, e, _⟩ | ⟨_, _, e, _⟩⟩
  · cases h; rfl
  all_goals cases e
theorem RdV.str {y : Str} (h : RdV K Z H x (.str y)) : x = .str y := by
  rcases h with h | ⟨a, _, ⟨_, _, e, _⟩ | ⟨_, _, e, _⟩ | ⟨_, _, e, _⟩⟩
  · cases h; rfl
  all_goals cases e
theorem RdV.list {ds : List D} (s : Same Z H) (h : RdV K Z H x (.list ds)) : ∃ a xs, x = .ref a ∧ H a = some (.lst xs) ∧ xs.length ≤ sizeLine ∧ Rps K Z xs ds := by
  rcases h with h | ⟨a, ea, ⟨_, xs, e, q1, q2, q3⟩ | ⟨_, _, e, _⟩ | ⟨_, _, e, _⟩⟩
  · cases h with
    | lst h1 h2 h3 => exact ⟨_, _, rfl, s _ _ h1, h2, h3⟩
  · cases e; exact ⟨a, xs, ea, q1, q2, q3⟩
  · cases e
  · cases e
theorem RdV.tuple {ds : List D} (s : Same Z H) (h : RdV K Z H x (.tuple ds)) : ∃ a xs, x = .ref a ∧ H a = some (.tup xs) ∧ xs.length ≤ sizeLine ∧ Rps K Z xs ds := by
  rcases h with h | ⟨a, ea, ⟨_, xs, e, q1, q2, q3⟩ | ⟨_, _, e, _⟩ | ⟨_, _, e, _⟩⟩
  · cases h with
    | tup h1 h2 h3 => exact ⟨_, _, rfl, s _ _ h1, h2, h3⟩
  all_goals cases e
theorem RdV.dp (s : Same Z H) (h : RdV K Z H x d) (c : d.canLay0 = true) : Dp K H x d := by
  rcases h with h | ⟨a, rfl, ⟨ds, xs, rfl, q1, q2, q3⟩ | ⟨_, _, rfl, _⟩ | ⟨_, _, rfl, _⟩⟩
  · exact h.dp s c
  · exact .lst (.inl (.inl q1)) (q3.dp s (by simpa [PyData.canLay0] using c))
  · simp [PyData.canLay0] at c
  · simp [PyData.canLay0] at c
theorem RdV.none_iff (h : RdV K Z H x d) : decide (x = .non) = isNone d := by
  rcases h with h | ⟨a, rfl, ⟨ds, xs, rfl, _⟩ | ⟨_, _, rfl, _⟩ | ⟨_, _, rfl, _⟩⟩
  · cases h <;> rfl
  all_goals rfl
theorem RdV.flatV (h : RdV K Z H x d) (f : flat d = true) : L2.flatV x = true := by
  rcases h with h | ⟨a, rfl, ⟨ds, xs, rfl, _⟩ | ⟨_, _, rfl, _⟩ | ⟨_, _, rfl, _⟩⟩
  · cases h <;> first | rfl | (simp [flat] at f)
  all_goals (simp [flat] at f)
theorem Rp.eqV {y : V} {e : D} (h : Rp K Z x d) (h' : Rp K Z y e) (f : flat d = true) (f' : flat e = true) : L2.eqV x y = PyData.eqv d e := by
  cases h <;> (first | (simp [flat] at f; done) | skip) <;> cases h' <;> (first | (simp [flat] at f'; done) | (simp [L2.eqV,PyData.eqv]))
theorem RdV.eqV {y : V} {e : D} (h : Rp K Z y e) (h' : RdV K Z H x d) (f : flat d = true) (f' : flat e = true) : L2.eqV y x = PyData.eqv e d := by
  rcases h' with h' | ⟨a, rfl, ⟨ds, xs, rfl, _⟩ | ⟨_, _, rfl, _⟩ | ⟨_, _, rfl, _⟩⟩
  · exact h.eqV h' f' f
  all_goals (simp [flat] at f)
theorem Rps.flat : ∀ {xs : List V} {ds : List D}, Rps K Z xs ds → ds.all Bide.flat = true → xs.all L2.flatV = true
  | _, _, .nil, _ => rfl
  | _, _, .cons h r, f => by
    simp only [List.all_cons, Bool.and_eq_true] at f ⊢
    exact ⟨RdV.flatV (.inl h : RdV K Z Z _ _) f.1, Rps.flat r f.2⟩
theorem Rps.inV : ∀ {xs : List V} {ds : List D}, Rps K Z xs ds → RdV K Z H x d → Bide.flat d = true → ds.all Bide.flat = true → L2.inV x xs = ds.any fun y => PyData.eqv y d
  | _, _, .nil, _, _, _ => rfl
  | _, _, .cons h r, q, f, f' => by
    simp only [List.all_cons, Bool.and_eq_true] at f'
    have ih := Rps.inV r q f f'.2
    unfold L2.inV at ih ⊢
    rw [List.any_cons, List.any_cons, ih, RdV.eqV h q f f'.1]

/-- the heap and what is shared grow -/
structure Grow (Z H Z' H' : Hp) : Prop where
  zz : Same Z Z'
  sub : Same Z' H'
  zf : ∀ p o, Z' p = some o → Z p = some o ∨ H p = Option.none ∨ HoTup o
  hh : Same H H'
theorem Grow.refl (s : Same Z H) : Grow Z H Z H := ⟨Same.refl _, s, fun _ _ q => .inl q, Same.refl _⟩
theorem zFree {p : Addr} (s : Same Z H) (hp : H p = Option.none) : Z p = Option.none := by
  cases q : Z p with
  | none => rfl
  | some o => rw [s p o q] at hp; cases hp
theorem Grow.new {p : Addr} {o : HO} (s : Same Z H) (hp : H p = Option.none) : Grow Z H (L2.upd Z p o) (L2.upd H p o) where
  zz := fun b u e => by rw [upd_ne (ne_of_none e (zFree s hp))]; exact e
  sub := fun b u e => by
    by_cases h : b = p
    · subst h; rw [upd_same] at e ⊢; exact e
    · rw [upd_ne h] at e ⊢; exact s b u e
  zf := fun b u e => by
    by_cases h : b = p
    · subst h; exact .inr (.inl hp)
    · rw [upd_ne h] at e; exact .inl e
  hh := fun b u e => by rw [upd_ne (ne_of_none e hp)]; exact e
theorem Grow.own {p : Addr} {o : HO} (s : Same Z H) (hp : H p = Option.none) : Grow Z H Z (L2.upd H p o) where
  zz := Same.refl _
  sub := fun b u e => by rw [upd_ne (ne_of_none (s b u e) hp)]; exact s b u e
  zf := fun _ _ q => .inl q
  hh := fun b u e => by rw [upd_ne (ne_of_none e hp)]; exact e
/-- a result that an operation makes -/
def New (K : PySem.W.Frag) (H Z' H' : Hp) (x : V) : RV → Prop
  | .v d => Rp K Z' x d
  | .f o => ∃ a as, x = .ref a ∧ OC K Z' H' as a o ∧ as.Nodup ∧ ∀ b ∈ as, Z' b = Option.none ∧ H b = Option.none
  | .s _ => False
def Give (K : PySem.W.Frag) (Z H : Hp) (r : RV) (Q : VK) : Prop := ∀ x Z' H', Grow Z H Z' H' → New K H Z' H' x r → Q x H'
theorem Give.v {Q : VK} (s : Same Z H) (g : Give K Z H (.v d) Q) (r : Rp K Z x d) : Q x H := g x Z H (Grow.refl s) r
theorem Give.tup {Q : VK} {ds : List D} {xs : List V} (s : Same Z H) (g : Give K Z H (.v (.tuple ds)) Q) (l : xs.length ≤ sizeLine) (r : Rps K Z xs ds) {p : Addr} (hp : H p = Option.none) : Q (.ref p) (L2.upd H p (.tup xs)) :=
  have gr := Grow.new (o := .tup xs) s hp
  g _ _ _ gr (.tup upd_same l (r.mono gr.zz))
theorem Give.lst {Q : VK} {ds : List D} {xs : List V} (s : Same Z H) (g : Give K Z H (.f (.l ds)) Q) (l : xs.length ≤ sizeLine) (r : Rps K Z xs ds) {p : Addr} (hp : H p = Option.none) : Q (.ref p) (L2.upd H p (.lst xs)) :=
  g _ _ _ (Grow.own s hp) ⟨p, [p], rfl, ⟨rfl, xs, upd_same, l, r⟩, by simp, fun b hb => by cases List.mem_singleton.mp hb; exact ⟨zFree s hp, hp⟩⟩
theorem Give.dct {Q : VK} {t : Bool} (s : Same Z H) (g : Give K Z H (.f (.d t [])) Q) {p : Addr} (hp : H p = Option.none) : Q (.ref p) (L2.upd H p (if t then .dT [] else .dK [])) := by
  refine g _ _ _ (Grow.own s hp) ⟨p, [p], rfl, ?_, by simp, fun b hb => by cases List.mem_singleton.mp hb; exact ⟨zFree s hp, hp⟩⟩
  cases t
  · exact ⟨rfl, [], upd_same, Nat.zero_le _, .nil⟩
  · exact ⟨rfl, [], upd_same, Nat.zero_le _, .nil⟩
end

def Bop.py : Bop → Operator
  | .add => .Add
  | .sub => .Sub
  | .mul => .Mult
  | .fdiv => .FloorDiv
  | .mod => .Mod
  | .pow => .Pow
def Cop.py : Cop → CmpOp
  | .eq => .Eq
  | .ne => .NotEq
  | .lt => .Lt
  | .le => .LtE
  | .gt => .Gt
  | .ge => .GtE
  | .isN => .Is
  | .notN => .IsNot
  | .isB => .Is
  | .notB => .IsNot
  | .inn => .In
  | .notin => .NotIn
/-- the wish of a two-place operation -/
def rOf (K : PySem.W.Frag) (g : D → D → Option RV) : R2 := fun x y H Q => ∃ Z d e r, Same Z H ∧ RdV K Z H x d ∧ RdV K Z H y e ∧ g d e = some r ∧ Give K Z H r Q
section
variable {X : Cx}
theorem bop_ok (o : Bop) : OpR X (binaryOp o.py) (rOf X.K (bop o)) := by
  intro pins s σ H x y v u Q I rx ry h
  obtain ⟨Z, d, e, r, sz, hx, hy, hb, g⟩ := h
  unfold bop at hb
  split at hb
  · cases hb
    cases hx.int; cases hy.int
    exact op_add pins s σ H _ _ v u Q I rx ry ⟨_, _, rfl, rfl, g.v sz (.int _)⟩
  · split at hb <;> cases hb
    rename_i hl
    rw [line_eq] at hl
    cases hx.str; cases hy.str
    exact op_add_str pins s σ H _ _ v u Q I rx ry ⟨_, _, rfl, rfl, hl, g.v sz (.str _)⟩
  · split at hb <;> cases hb
    rename_i hl
    rw [line_eq] at hl
    obtain ⟨a, xs, rfl, h1, h2, h3⟩ := hx.tuple sz
    obtain ⟨b, ys, rfl, q1, q2, q3⟩ := hy.tuple sz
    have hl' : xs.length + ys.length ≤ sizeLine := by rw [h3.length, q3.length]; exact hl
    refine op_catA pins s σ H _ _ v u Q I rx ry ⟨a, b, xs, ys, rfl, rfl, .inl (.inl h1), .inl (.inl q1), hl', fun z => ?_, fun z1 z2 => ?_, fun _ _ p hp => ?_⟩
    · have e1 := h3.length
      rw [z] at e1
      have : (_ : List D) = [] := List.length_eq_zero_iff.mp e1.symm
      rw [this, List.nil_append] at g
      rcases hy with hy | ⟨_, _, ⟨_, _, e, _⟩ | ⟨_, _, e, _⟩ | ⟨_, _, e, _⟩⟩
      · exact g.v sz hy
      all_goals cases e
    · have e1 := q3.length
      rw [z2] at e1
      have : (_ : List D) = [] := List.length_eq_zero_iff.mp e1.symm
      rw [this, List.append_nil] at g
      rcases hx with hy | ⟨_, _, ⟨_, _, e, _⟩ | ⟨_, _, e, _⟩ | ⟨_, _, e, _⟩⟩
      · exact g.v sz hy
      all_goals cases e
    · exact g.tup sz (by rw [List.length_append]; exact hl') (h3.append q3) hp
  · split at hb <;> cases hb
    rename_i hl
    rw [line_eq] at hl
    obtain ⟨a, xs, rfl, h1, h2, h3⟩ := hx.list sz
    obtain ⟨b, ys, rfl, q1, q2, q3⟩ := hy.list sz
    have hl' : xs.length + ys.length ≤ sizeLine := by rw [h3.length, q3.length]; exact hl
    exact op_cat pins s σ H _ _ v u Q I rx ry ⟨a, b, xs, ys, rfl, rfl, h1, q1, hl', fun p hp => g.lst sz (by rw [List.length_append]; exact hl') (h3.append q3) hp⟩
  · cases hb
    cases hx.int; cases hy.int
    exact op_sub pins s σ H _ _ v u Q I rx ry ⟨_, _, rfl, rfl, g.v sz (.int _)⟩
  · split at hb <;> cases hb
    rename_i hl
    cases hx.int; cases hy.int
    exact op_mul pins s σ H _ _ v u Q I rx ry ⟨_, _, rfl, rfl, hl, g.v sz (.int _)⟩
  · split at hb <;> cases hb
    rename_i hl
    obtain ⟨l0, l1, l2, l3⟩ := hl
    cases hy.int
    obtain ⟨a, xs, rfl, h1, h2, h3⟩ := hx.tuple sz
    have e0 := h3.length
    have hne : xs ≠ [] := fun z => by
      rw [z] at e0
      exact l0 (List.length_eq_zero_iff.mp e0.symm)
    refine op_repT pins s σ H _ _ v u Q I rx ry ⟨a, _, xs, rfl, rfl, .inl (.inl h1), hne, l1, l2, by rw [e0]; exact l3, fun p hp => g.tup sz ?_ (h3.rep _) hp⟩
    rw [List.length_flatten, List.map_replicate, List.sum_replicate_nat, sizeLine_eq]
    have : (_ : Int).toNat ≤ 1000 := Int.toNat_le.mpr l2
    exact Nat.le_trans (Nat.mul_le_mul this (by rw [e0]; exact l3)) (by decide)
  · split at hb <;> cases hb
    rename_i hl
    rw [line_eq] at hl
    obtain ⟨l0, l1, l2⟩ := hl
    cases hy.int
    obtain ⟨a, xs, rfl, h1, h2, h3⟩ := hx.list sz
    rw [← h3.length] at l0
    refine op_rep pins s σ H _ _ v u Q I rx ry ⟨a, _, xs, rfl, rfl, h1, by omega, by omega, l0, fun p hp => g.lst sz ?_ (h3.rep _) hp⟩
    rw [List.length_flatten, List.map_replicate, List.sum_replicate_nat, Nat.mul_comm]
    exact l0
  · split at hb <;> cases hb
    rename_i hl
    cases hx.int; cases hy.int
    exact op_fdiv pins s σ H _ _ v u Q I rx ry ⟨_, _, rfl, rfl, hl, g.v sz (.int _)⟩
  · split at hb <;> cases hb
    rename_i hl
    cases hx.int; cases hy.int
    exact op_mod pins s σ H _ _ v u Q I rx ry ⟨_, _, rfl, rfl, hl, g.v sz (.int _)⟩
  · split at hb <;> cases hb
    rename_i hl
    cases hx.int; cases hy.int
    exact op_pow pins s σ H _ _ v u Q I rx ry ⟨_, _, rfl, rfl, hl, g.v sz (.int _)⟩
  · cases hb
end
end Bide

set_option autoImplicit false
set_option Elab.async false
set_option maxRecDepth 100000
set_option linter.all false
/-! Operations by values: dicts, comparisons, truth, built-in functions. -/
namespace Bide
open PySem L2
section
variable {K : PySem.W.Frag} {Z H Z' H' : Hp} {x : V} {d : D}
theorem sameKey_kd : ∀ (a b : Key), sameKey (keyD a) (keyD b) = decide (a = b)
  | .inl i, .inl j => by by_cases h : i = j <;> simp [sameKey,keyD,h]
  | .inr i, .inr j => by by_cases h : i = j <;> simp [sameKey,keyD,h]
  | .inl i, .inr j => by simp [sameKey,keyD]
  | .inr i, .inl j => by simp [sameKey,keyD]
theorem eqv_kd : ∀ (a b : Key), PyData.eqv (keyD a) (keyD b) = decide (a = b)
  | .inl i, .inl j => by by_cases h : i = j <;> simp [PyData.eqv,keyD,h]
  | .inr i, .inr j => by by_cases h : i = j <;> simp [PyData.eqv,keyD,h]
  | .inl i, .inr j => by simp [PyData.eqv,keyD]
  | .inr i, .inl j => by simp [PyData.eqv,keyD]
theorem eqvs_kd : ∀ (a b : List Key), PyData.eqvAll (a.map keyD) (b.map keyD) = decide (a = b)
  | [], [] => by simp [PyData.eqvAll]
  | [], _ :: _ => by simp [PyData.eqvAll]
  | _ :: _, [] => by simp [PyData.eqvAll]
  | a :: as, b :: bs => by
    have ih := eqvs_kd as bs
    rw [List.map_cons, List.map_cons]
    simp only [PyData.eqvAll, eqv_kd, ih]
    by_cases h : a = b <;> by_cases h' : as = bs <;> simp [h,h']
theorem sameKey_kt (a b : List Key) : sameKey (.tuple (a.map keyD)) (.tuple (b.map keyD)) = decide (a = b) := by
  simp only [sameKey]; exact eqvs_kd a b
theorem RpK.get : ∀ {ks : List (Key × V)} {kvs : List (D × D)}, RpK K Z ks kvs → ∀ k : Key, (valV ks k = none ∧ getKV kvs (keyD k) = none) ∨ ∃ v d, valV ks k = some v ∧ getKV kvs (keyD k) = some d ∧ Rp K Z v d
  | _, _, .nil, _ => .inl ⟨rfl, rfl⟩
  | _, _, .cons (k := k') h r, k => by
    by_cases e : k' = k
    · refine .inr ⟨_, _, valV_pos e, ?_, h⟩
      simp only [getKV, sameKey_kd, e, decide_true, if_true]
    · rcases RpK.get r k with ⟨h1, h2⟩ | ⟨v, d, h1, h2, h3⟩
      · refine .inl ⟨by rw [valV_neg e]; exact h1, ?_⟩
        simp only [getKV, sameKey_kd, e, decide_false]
        exact h2
      · refine .inr ⟨v, d, by rw [valV_neg e]; exact h1, ?_, h3⟩
        simp only [getKV, sameKey_kd, e, decide_false]
        exact h2
theorem RpT.get : ∀ {ks : List (List Key × V)} {kvs : List (D × D)}, RpT K Z ks kvs → ∀ k : List Key, (valV ks k = none ∧ getKV kvs (.tuple (k.map keyD)) = none) ∨ ∃ v d, valV ks k = some v ∧ getKV kvs (.tuple (k.map keyD)) = some d ∧ Rp K Z v d
  | _, _, .nil, _ => .inl ⟨rfl, rfl⟩
  | _, _, .cons (k := k') _ h r, k => by
    by_cases e : k' = k
    · refine .inr ⟨_, _, valV_pos e, ?_, h⟩
      simp only [getKV, sameKey_kt, e, decide_true, if_true]
    · rcases RpT.get r k with ⟨h1, h2⟩ | ⟨v, d, h1, h2, h3⟩
      · refine .inl ⟨by rw [valV_neg e]; exact h1, ?_⟩
        simp only [getKV, sameKey_kt, e, decide_false]
        exact h2
      · refine .inr ⟨v, d, by rw [valV_neg e]; exact h1, ?_, h3⟩
        simp only [getKV, sameKey_kt, e, decide_false]
        exact h2
/-- a key's value -/
theorem key_of_flat {y : V} {k : D} (h : RdV K Z H y k) (o : keyOk k = true) : ∃ q : Key, y = kV q ∧ k = keyD q := by
  cases k <;> simp [keyOk] at o
  · exact ⟨.inl _, h.int, rfl⟩
  · exact ⟨.inr _, h.str, rfl⟩
theorem Rps.keys : ∀ {xs : List V} {ds : List D}, Rps K Z xs ds → ds.all keyOk = true → ∃ q : List Key, xs = q.map kV ∧ ds = q.map keyD
  | _, _, .nil, _ => ⟨[], rfl, rfl⟩
  | _, _, .cons h r, o => by
    simp only [List.all_cons, Bool.and_eq_true] at o
    obtain ⟨q, e1, e2⟩ := key_of_flat (.inl h : RdV K Z Z _ _) o.1
    obtain ⟨qs, e3, e4⟩ := Rps.keys r o.2
    exact ⟨q :: qs, by rw [e1, e3]; rfl, by rw [e2, e4]; rfl⟩
theorem RdV.dict {kvs : List (D × D)} (s : Same Z H) (h : RdV K Z H x (.dict ((.bool false, .none) :: kvs))) : ∃ a ks, x = .ref a ∧ Rd H a (.dK ks) ∧ ks.length ≤ sizeLine ∧ RpK K Z ks kvs := by
  rcases h with h | ⟨a, ea, ⟨_, _, e, _⟩ | ⟨_, ks, e, q1, q2, q3⟩ | ⟨_, _, e, _⟩⟩
  · cases h with
    | dk h1 h2 h3 => exact ⟨_, _, rfl, rd_same s h1, h2, h3⟩
  · cases e
  · cases e; exact ⟨a, ks, ea, .inl q1, q2, q3⟩
  · cases e
theorem RdV.dictT {kvs : List (D × D)} (s : Same Z H) (h : RdV K Z H x (.dict ((.bool true, .none) :: kvs))) : ∃ a ks, x = .ref a ∧ Rd H a (.dT ks) ∧ ks.length ≤ sizeLine ∧ RpT K Z ks kvs := by
  rcases h with h | ⟨a, ea, ⟨_, _, e, _⟩ | ⟨_, _, e, _⟩ | ⟨_, ks, e, q1, q2, q3⟩⟩
  · cases h with
    | dt h1 h2 h3 => exact ⟨_, _, rfl, rd_same s h1, h2, h3⟩
  · cases e
  · cases e
  · cases e; exact ⟨a, ks, ea, .inl q1, q2, q3⟩
/-- what a dict holds at a key -/
theorem dget_of {t : Bool} {y : V} {k : D} {kvs : List (D × D)} (s : Same Z H) (h : RdV K Z H x (.dict ((.bool t, .none) :: kvs))) (hy : RdV K Z H y k) (o : keyOkT t k = true) :
    ∃ a r, x = .ref a ∧ DGet H a y r ∧ ((r = none ∧ getKV kvs k = none) ∨ ∃ v d, r = some v ∧ getKV kvs k = some d ∧ Rp K Z v d) := by
  cases t with
  | false =>
    obtain ⟨a, ks, rfl, h1, h2, h3⟩ := h.dict s
    obtain ⟨q, rfl, rfl⟩ := key_of_flat hy o
    exact ⟨a, _, rfl, .inl ⟨_, q, h1, rfl, rfl⟩, h3.get q⟩
  | true =>
    obtain ⟨a, ks, rfl, h1, h2, h3⟩ := h.dictT s
    cases k <;> (first | (simp [keyOkT] at o; done) | skip)
    rename_i ds
    obtain ⟨b, xs, rfl, q1, q2, q3⟩ := hy.tuple s
    obtain ⟨q, rfl, rfl⟩ := q3.keys (by simpa [keyOkT] using o)
    exact ⟨a, _, rfl, .inr ⟨_, q, _, h1, rfl, q1, rfl⟩, h3.get q⟩
theorem RdV.ktup {ds : List D} (h : RdV K Z H x (.dict [(.none, .tuple ds)])) : ∃ a xs, x = .ref a ∧ SqT K (fun _ => Option.none) a xs ∧ xs.length ≤ sizeLine ∧ Rps K Z xs ds := by
  rcases h with h | ⟨a, ea, ⟨_, _, e, _⟩ | ⟨_, ks, e, q1, q2, q3⟩ | ⟨_, _, e, _⟩⟩
  · cases h with
    | ktup h1 h2 h3 => exact ⟨_, _, rfl, h1, h2, h3⟩
  all_goals cases e
theorem sqT_k {a : Addr} {xs : List V} (h : SqT K (fun _ => none) a xs) : SqT K H a xs := by
  rcases h with (h | ⟨o, h⟩) | h
  · cases h
  · cases h
  · exact .inr h
end

def cOf (K : PySem.W.Frag) (g : D → D → Option Bool) : R2 := fun x y H Q => ∃ Z d e r, Same Z H ∧ RdV K Z H x d ∧ RdV K Z H y e ∧ g d e = some r ∧ Q (.bl r) H
section
variable {X : Cx}
theorem in_ok (hu : X.A.units + 65 < cLine) : OpR X (compareOp .In) (cOf X.K dIn) := by
  intro pins s σ H x y v u Q I rx ry h
  obtain ⟨Z, d, e, r, sz, hx, hy, hb, g⟩ := h
  unfold dIn at hb
  split at hb
  · split at hb <;> cases hb
    rename_i ds hl
    have c1 := SeqAt.canLay_of_shaped hl.1
    have c2 := SeqAt.canLay_of_shaped hl.2
    exact op_inD hu pins s σ H _ _ v u Q I rx ry ⟨d, ds, hx.dp sz c1, hy.dp sz c2, hl.1, hl.2, g⟩
  · split at hb <;> cases hb
    rename_i ds hl
    obtain ⟨a, xs, rfl, h1, h2, h3⟩ := hy.tuple sz
    refine op_in_seq pins s σ H _ _ v u Q I rx ry ⟨a, xs, rfl, .inr (.inl (.inl h1)), hx.flatV hl.1, h3.flat hl.2, ?_⟩
    rw [if_neg (by decide), h3.inV hx hl.1 hl.2]; exact g
  · split at hb <;> cases hb
    rename_i ds hl
    obtain ⟨a, xs, rfl, h1, h2, h3⟩ := hy.ktup
    refine op_in_seq pins s σ H _ _ v u Q I rx ry ⟨a, xs, rfl, .inr (sqT_k h1), hx.flatV hl.1, h3.flat hl.2, ?_⟩
    rw [if_neg (by decide), h3.inV hx hl.1 hl.2]; exact g
  · split at hb <;> cases hb
    rename_i t kvs hl
    obtain ⟨a, r, rfl, dg, hr⟩ := dget_of sz hy hx hl
    obtain rfl : u = Value.ref a := ry
    refine d_in (by omega) I dg rx fun s' I' => ⟨.bl r.isSome, H, I', rfl, ?_⟩
    rcases hr with ⟨rfl, e⟩ | ⟨v', d', rfl, e, _⟩ <;> rw [e] at g <;> exact g
  · cases hb
theorem notin_ok (hu : X.A.units + 65 < cLine) : OpR X (compareOp .NotIn) (cOf X.K fun d e => (dIn d e).map not) := by
  intro pins s σ H x y v u Q I rx ry h
  obtain ⟨Z, d, e, r, sz, hx, hy, hb, g⟩ := h
  obtain ⟨k, hk, rfl⟩ := Option.map_eq_some_iff.mp hb
  clear hb
  unfold dIn at hk
  split at hk
  · split at hk <;> cases hk
    rename_i ds hl
    have c1 := SeqAt.canLay_of_shaped hl.1
    have c2 := SeqAt.canLay_of_shaped hl.2
    exact op_notInD hu pins s σ H _ _ v u Q I rx ry ⟨d, ds, hx.dp sz c1, hy.dp sz c2, hl.1, hl.2, g⟩
  · split at hk <;> cases hk
    rename_i ds hl
    obtain ⟨a, xs, rfl, h1, h2, h3⟩ := hy.tuple sz
    refine op_notIn_seq pins s σ H _ _ v u Q I rx ry ⟨a, xs, rfl, .inr (.inl (.inl h1)), hx.flatV hl.1, h3.flat hl.2, ?_⟩
    rw [if_pos rfl, h3.inV hx hl.1 hl.2]; exact g
  · split at hk <;> cases hk
    rename_i ds hl
    obtain ⟨a, xs, rfl, h1, h2, h3⟩ := hy.ktup
    refine op_notIn_seq pins s σ H _ _ v u Q I rx ry ⟨a, xs, rfl, .inr (sqT_k h1), hx.flatV hl.1, h3.flat hl.2, ?_⟩
    rw [if_pos rfl, h3.inV hx hl.1 hl.2]; exact g
  · split at hk <;> cases hk
    rename_i t kvs hl
    obtain ⟨a, r, rfl, dg, hr⟩ := dget_of sz hy hx hl
    obtain rfl : u = Value.ref a := ry
    refine d_notIn (by omega) I dg rx fun s' I' => ⟨.bl (!r.isSome), H, I', rfl, ?_⟩
    rcases hr with ⟨rfl, e⟩ | ⟨v', d', rfl, e, _⟩ <;> rw [e] at g <;> exact g
  · cases hk
theorem cop_ok (hu : X.A.units + 65 < cLine) (o : Cop) : OpR X (compareOp o.py) (cOf X.K (cop o)) := by
  intro pins s σ H x y v u Q I rx ry h
  obtain ⟨Z, d, e, r, sz, hx, hy, hb, g⟩ := h
  unfold cop at hb
  split at hb
  · split at hb <;> cases hb
    rename_i hl
    exact op_eqD (by omega) pins s σ H _ _ v u Q I rx ry ⟨d, e, hx.dp sz (SeqAt.canLay_of_shaped hl.1), hy.dp sz (SeqAt.canLay_of_shaped hl.2), hl.1, hl.2, g⟩
  · split at hb <;> cases hb
    rename_i hl
    exact op_neD (by omega) pins s σ H _ _ v u Q I rx ry ⟨d, e, hx.dp sz (SeqAt.canLay_of_shaped hl.1), hy.dp sz (SeqAt.canLay_of_shaped hl.2), hl.1, hl.2, g⟩
  · cases hb; cases hx.int; cases hy.int
    exact op_lt pins s σ H _ _ v u Q I rx ry ⟨_, _, rfl, rfl, g⟩
  · cases hb; cases hx.int; cases hy.int
    exact op_le pins s σ H _ _ v u Q I rx ry ⟨_, _, rfl, rfl, g⟩
  · cases hb; cases hx.int; cases hy.int
    exact op_gt pins s σ H _ _ v u Q I rx ry ⟨_, _, rfl, rfl, g⟩
  · cases hb; cases hx.int; cases hy.int
    exact op_ge pins s σ H _ _ v u Q I rx ry ⟨_, _, rfl, rfl, g⟩
  · cases hb; cases hx.bool; cases hy.bool
    exact op_isBl pins s σ H _ _ v u Q I rx ry ⟨_, _, rfl, rfl, g⟩
  · cases hb; cases hx.bool; cases hy.bool
    exact op_notBl pins s σ H _ _ v u Q I rx ry ⟨_, _, rfl, rfl, g⟩
  · cases hb; cases hy.none
    refine op_isN pins s σ H _ _ v u Q I rx ry ⟨rfl, ?_⟩
    rw [hx.none_iff]; exact g
  · cases hb; cases hy.none
    refine op_notN pins s σ H _ _ v u Q I rx ry ⟨rfl, ?_⟩
    rw [hx.none_iff]; exact g
  · exact in_ok hu pins s σ H _ _ v u Q I rx ry ⟨Z, _, _, r, sz, hx, hy, hb, g⟩
  · exact notin_ok hu pins s σ H _ _ v u Q I rx ry ⟨Z, _, _, r, sz, hx, hy, hb, g⟩
  · cases hb
end
end Bide

set_option autoImplicit false
set_option Elab.async false
set_option maxRecDepth 100000
set_option linter.all false
set_option maxHeartbeats 4000000
/-! sorted of tuples; of a dict. -/
namespace Bide
open PySem PySem.Spec PyProof.Rows L2
section
variable {X : Cx} {pins : List (Addr × Obj)} {σ : L2.St} {H Z : Hp} {s : Shared}
/-- a value shows data -/
def RvD (K : PySem.W.Frag) (Z : Hp) (v : Value) (d : D) : Prop := ∃ y, RelV y v ∧ Rp K Z y d
theorem each_rv {K : PySem.W.Frag} : ∀ {ys : List V} {vs : List Value} {ds : List D}, Vals ys vs → Rps K Z ys ds → PySem.W.EachIs (RvD K Z) vs ds
  | _, _, _, .nil, .nil => .nil
  | _, _, _, .cons r t, .cons p q => .cons ⟨_, r, p⟩ (each_rv t q)
theorem rv_each {K : PySem.W.Frag} : ∀ {vs : List Value} {ds : List D}, PySem.W.EachIs (RvD K Z) vs ds → ∃ ys, Vals ys vs ∧ Rps K Z ys ds
  | _, _, .nil => ⟨[], .nil, .nil⟩
  | _, _, .cons ⟨y, r, p⟩ t => by
    obtain ⟨ys, h1, h2⟩ := rv_each t
    exact ⟨y :: ys, .cons r h1, .cons p h2⟩
theorem rv_reads (I : Inv X pins σ H s) (sz : Same Z H) : ∀ {vs : List Value} {ds : List D}, PySem.W.EachIs (RvD X.K Z) vs ds → (∀ d ∈ ds, d.canLay0 = true) → PySem.W.EachIs (fun v (d : D) => ∃ as, Reads s.heap v (id d) as) vs ds
  | _, _, .nil, _ => .nil
  | _, _, .cons ⟨y, r, p⟩ t, h => .cons (Dp.reads I _ _ _ (p.dp sz (h _ (by simp))) r) (rv_reads I sz t fun d hd => h d (by simp [hd]))
theorem srtB_parts {ds : List D} (h : srtB ds = true) : PySem.W.AllAlike ds ∧ PySem.W.Sortable ds ∧ (∀ d ∈ ds, d.canLay0 = true) ∧ ∀ d ∈ ds, d.depth ≤ 60 := by
  simp only [srtB, Bool.and_eq_true, List.all_eq_true, decide_eq_true_eq] at h
  obtain ⟨h1, h2, h3⟩ := h
  refine ⟨h1, .inl fun d hd => ?_, fun d hd => (h3 d hd).1, fun d hd => (h3 d hd).2⟩
  have := h2 d hd
  cases d <;> first | (cases this; done) | skip
  rename_i l
  cases l with
  | nil => cases this
  | cons x r => exact ⟨x, r, rfl⟩
/-- sorted of a list of tuples -/
theorem sortD_run {a : Addr} {ys : List V} {ds : List D} {Q : VK} (I : Inv X pins σ H s) (sz : Same Z H) (hh : SqL X.K H a ys) (r : Rps X.K Z ys ds) (hs : srtB ds = true) (hu : X.A.units + 65 < cLine)
    (q : ∀ zs p, Rps X.K Z zs (ds.mergeSort (PySem.W.dataLe false id)) → zs.length ≤ sizeLine → H p = none → Q (.ref p) (upd H p (.lst zs))) : wpAny (model X.prog X.w) X.A (call (.builtin "sorted") [.ref a]) (EP X pins σ Q) X.xe s := by
  obtain ⟨its, rv, hl, hz⟩ := I.list hh
  obtain ⟨h1, h2, h3, h4⟩ := srtB_parts hs
  have e := each_rv rv r
  have hlen : ds.length = ys.length := r.length.symm
  refine PySem.W.sorted_data (bs := ds) (enc := id) (R := RvD X.K Z) hl.isList e (rv_reads I sz e h3) (by rw [List.map_id]; exact h1) (by rw [List.map_id]; exact h2) (by omega) (fun d hd => by have := h4 d hd; show X.A.units + 2 + d.depth < cLine; omega) fun out ho eo => ?_
  obtain ⟨zs, v1, v2⟩ := rv_each eo
  obtain ⟨ep, he'⟩ := PyProof.Rows.sortedAll_at s.heap its (List.toArray out)
  have hzl : zs.length ≤ sizeLine := by rw [v1.length, ho]; omega
  exact ⟨.ref _, upd H (s.heap.objs.size + 1) (.lst zs), I.laid (t' := s.toks) (fun _ _ => PyProof.Rows.sortedAll_old) (Nat.le_succ _) ⟨hzl, _, ep, v1, he'⟩, rfl, q _ _ v2 hzl (I.hok.fresh (Nat.le_succ _))⟩
end
section
open PySem.W PySem.Calls
variable {prog : Program} {w : World} {A : Around} {E : Value → Shared → Prop} {s : Shared}
theorem collect_tup {l : Addr} {vs : List Value} {Q : List Value → Shared → Prop} (hl : IsTup s.heap l vs.toArray)
    (h : Q vs { s with heap := (s.heap.push (seqObj "list" #[] 0)).update s.heap.objs.size (Obj.mapSeq (· ++ vs.toArray)) }) (hsz : vs.length ≤ sizeLine) :
    wpAny (model prog w) A (collect (.ref l)) Q E s := by
  obtain ⟨o, ho, hc, n, hd⟩ := id hl
  unfold collect
  refine wpAny_bind (wpAny_runValue (codeAny_builtin entry_proto_collect' ?_))
  show wpAny _ _ (do again (.builtin "list.__iadd__" ⟨[← newList [], .ref l], []⟩)) _ _ s
  refine wpAny_bind (wpAny_newList (wpAny_pure ⟨Code.quiet_builtin _ (by decide +kernel), codeAny_builtin entry_list_iadd' ?_⟩))
  show wpAny _ _ (Builtin.List.listExtendWith (.ref s.heap.objs.size) (.ref l) (.ref s.heap.objs.size)) _ _ { s with heap := s.heap.push (seqObj "list" #[] 0) }
  unfold Builtin.List.listExtendWith
  have ho' : (s.heap.push (seqObj "list" #[] 0)).get? l = some o := Heap.get?_push_of_some _ ho
  refine wpAny_bind (wpAny_typeOf (T := "tuple") ⟨o, ho', hc⟩ ?_)
  have ht : (Value.type "tuple" == Value.type "tuple") = true := by rfl
  rw [if_pos (by rw [ht]; simp)]
  refine wpAny_bind (listItems_at ho' hd ?_)
  refine wpAny_bind (listItems_at (xs := #[]) (n := 0) (Heap.get?_push_size _ rfl) rfl ?_)
  rw [if_neg (by simp)]
  refine wpAny_bind (listUpdate_at (xs := #[]) (n := 0) (Heap.get?_push_size _ rfl) rfl ?_ (Nat.zero_le _) (by show (#[] ++ vs.toArray).size ≤ sizeLine + 1; simp only [Array.size_append, List.size_toArray, List.length_nil]; omega))
  refine wpAny_pure ?_
  show wpAny (model prog w) A (do
      let o ← load s.heap.objs.size
      match o.data with
      | .seq xs _ => pure xs.toList
      | _ => unsupported "internal:collect") Q E { s with heap := (s.heap.push (seqObj "list" #[] 0)).update s.heap.objs.size (Obj.mapSeq (· ++ vs.toArray)) }
  refine wpAny_bind (wpAny_load (get?_update_seq (Heap.get?_push_size _ rfl) _) ?_)
  show wpAny _ _ (pure ((#[] : Array Value) ++ vs.toArray).toList) Q E _
  rw [show ((#[] : Array Value) ++ vs.toArray).toList = vs by simp]
  exact wpAny_pure h
theorem sorted_of_sortT {l : Addr} {vs : List Value} {kw : List (Str × Value)} {Q : Value → Shared → Prop} (hl : IsTup s.heap l vs.toArray) (hL : vs.length ≤ sizeLine) (ha1 : argsOk "sorted" ⟨[.ref l], kw⟩) (ha2 : ∀ x, argsOk "list.sort" ⟨[.ref x], kw⟩)
    (body : ∀ E' : Value → Shared → Prop, wpAny (model prog w) A.in1.in1 (Builtin.«list.sort» ⟨[.ref (s.heap.objs.size + 1)], kw⟩) (fun f s' => f = .done (.ret .none) ∧ Q (.ref (s.heap.objs.size + 1)) s') E' { s with heap := copyHeap s.heap vs }) :
    wpAny (model prog w) A (call (.builtin "sorted") [.ref l] kw) Q E s := by
  refine call_function_entry_kw kind_sorted plain_sorted entry_sorted ha1 ?_
  unfold Builtin.«sorted»
  refine wpAny_bind (m := checkCount "sorted" 1 1 _) (wpAny_pure ?_)
  refine wpAny_bind (collect_tup hl ?_ hL)
  refine wpAny_bind (wpAny_newList ?_ hL)
  have hsz : ((s.heap.push (seqObj "list" #[] 0)).update s.heap.objs.size (Obj.mapSeq (· ++ vs.toArray))).objs.size = s.heap.objs.size + 1 := by
    rw [Heap.size_update, size_push']
  show wpAny _ _ _ _ _ { s with heap := copyHeap s.heap vs }
  rw [hsz]
  refine wpAny_bind (wpAny_holding (wpAny_call_entry_kw slot_list_sort ⟨_, copyHeap_at s.heap vs, rfl⟩ entry_list_sort ?body (ha2 _)))
  case body =>
    show wpAny (model prog w) A.in1.in1 (Builtin.«list.sort» ⟨[.ref (s.heap.objs.size + 1)], kw⟩) _ _ _
    refine wpAny_mono (body _) (fun f s' hf => ?_) fun _ _ e => e
    obtain ⟨rfl, hq⟩ := hf
    exact ⟨_, rfl, wpAny_pure ⟨_, rfl, hq⟩⟩
theorem sorted_dataT {β : Type} {R : Value → β → Prop} {enc : β → PyData} {vs : List Value} {bs : List β} {l : Addr} {Q : Value → Shared → Prop} (hl : IsTup s.heap l vs.toArray) (e : EachIs R vs bs) (er : EachIs (fun v b => ∃ as, Reads s.heap v (enc b) as) vs bs) (hal : AllAlike (bs.map enc)) (hk : Sortable (bs.map enc)) (hL : bs.length ≤ sizeLine)
    (hu : ∀ b, b ∈ bs → A.units + 2 + (enc b).depth < cLine) (h : ∀ out, out.length = bs.length → EachIs R out (bs.mergeSort (dataLe false enc)) → Q (.ref (s.heap.objs.size + 1)) { s with heap := sortedAll s.heap vs (List.toArray out) }) :
    wpAny (model prog w) A (call (.builtin "sorted") [.ref l]) Q E s := by
  have er' : EachIs (fun v b => ∃ as, Reads (sortingHeap (copyHeap s.heap vs) (s.heap.objs.size + 1) vs) v (enc b) as) vs bs := er.mono fun _ _ ⟨as, r⟩ => ⟨as, PyProof.Rows.Reads.keeps (fun _ _ => sorting_copy_old) r⟩
  have hLv : vs.length ≤ sizeLine := by rw [e.length]; exact hL
  refine sorted_of_sortT hl hLv (args_sorted1 _) (fun _ => args_list_sort _) fun E' => list_sort_vals (s := { s with heap := copyHeap s.heap vs }) (copyHeap_at s.heap vs) (SortsAt.data (s := { s with heap := sortingHeap (copyHeap s.heap vs) (s.heap.objs.size + 1) vs }) (each_map (R := fun v d => ∃ as, Reads (sortingHeap (copyHeap s.heap vs) (s.heap.objs.size + 1) vs) v d as) enc er') hal hk (bound_map hu)) hLv ⟨rfl, ?_⟩
  exact h _ (by rw [sortVals_length false rfl]; exact e.length) (sortVals_data false e er' hal)
end
section
variable {X : Cx} {pins : List (Addr × Obj)} {σ : L2.St} {H Z : Hp} {s : Shared}
theorem ints_each : ∀ {ns : List Int} {vs : List Value}, Vals (ns.map V.int) vs → PySem.W.EachIs (fun v (i : Int) => ∃ t, v = .int i t) vs ns
  | [], _, r => by cases r; exact .nil
  | i :: ns, _, r => by
    cases r with
    | cons p t => exact .cons p (ints_each t)
theorem each_ints : ∀ {ns : List Int} {vs : List Value}, PySem.W.EachIs (fun v (i : Int) => ∃ t, v = .int i t) vs ns → Vals (ns.map V.int) vs
  | _, _, .nil => .nil
  | _, _, .cons p t => .cons p (each_ints t)
/-- sorted of a tuple of ints -/
theorem sortT_run {a : Addr} {ns : List Int} {Q : VK} (I : Inv X pins σ H s) (hh : SqT X.K H a (ns.map V.int)) (hu : X.A.units + 65 < cLine)
    (q : ∀ (ns' : List Int) p, ns'.Perm ns → ns'.Pairwise (· ≤ ·) → H p = none → Q (.ref p) (upd H p (.lst (ns'.map V.int)))) : wpAny (model X.prog X.w) X.A (call (.builtin "sorted") [.ref a]) (EP X pins σ Q) X.xe s := by
  obtain ⟨its, rv, hl, hz⟩ := I.tuple hh
  have e := ints_each rv
  have er : PySem.W.EachIs (fun v (i : Int) => ∃ as, Reads s.heap v (.int i) as) its ns := e.mono fun v i ⟨t, h⟩ => ⟨_, h ▸ Reads.int i t⟩
  have hlen : ns.length ≤ sizeLine := by rw [List.length_map] at hz; exact hz
  refine sorted_dataT (bs := ns) (enc := PyData.int) hl e er (PySem.W.AllAlike.of fun _ _ => by simp [PySem.W.alike]) (PySem.W.Sortable.others fun b => ⟨by simp, by simp⟩) hlen (fun d hd => by simp [PyData.depth]; omega) fun out ho eo => ?_
  rw [show PySem.W.dataLe false PyData.int = fun a b : Int => decide (a ≤ b) from PySem.W.dataLe_int id] at eo
  have hv := each_ints eo
  obtain ⟨ep, he'⟩ := PyProof.Rows.sortedAll_at s.heap its (List.toArray out)
  have hzl : ((ns.mergeSort fun a b => decide (a ≤ b)).map V.int).length ≤ sizeLine := by rw [hv.length, ho]; exact hlen
  refine ⟨.ref _, upd H (s.heap.objs.size + 1) (.lst _), I.laid (t' := s.toks) (fun _ _ => PyProof.Rows.sortedAll_old) (Nat.le_succ _) ⟨hzl, _, ep, hv, he'⟩, rfl, q _ _ (List.mergeSort_perm _ _) ?_ (I.hok.fresh (Nat.le_succ _))⟩
  have := List.pairwise_mergeSort (le := fun a b : Int => decide (a ≤ b)) (fun a b c h1 h2 => by simp at h1 h2 ⊢; omega) (fun a b => by simp; omega) ns
  exact this.imp fun h => by simpa using h
end
end Bide

set_option autoImplicit false
set_option Elab.async false
set_option maxRecDepth 100000
set_option linter.all false
/-! Operations by values: truth, subscripts, slices, built-in functions. -/
namespace Bide
open PySem L2
theorem insI_perm (x : Int) : ∀ l : List Int, (insI x l).Perm (x :: l)
  | [] => .refl _
  | y :: r => by
    unfold insI
    split
    · exact .refl _
    · exact ((insI_perm x r).cons y).trans (.swap _ _ _)
theorem insI_mem {x z : Int} {l : List Int} (h : z ∈ insI x l) : z = x ∨ z ∈ l := by
  have := (insI_perm x l).mem_iff.mp h
  simpa using this
theorem insI_sorted (x : Int) : ∀ l : List Int, l.Pairwise (· ≤ ·) → (insI x l).Pairwise (· ≤ ·)
  | [], _ => by simp [insI]
  | y :: r, h => by
    unfold insI
    split
    · rename_i hxy
      refine List.pairwise_cons.mpr ⟨fun z hz => ?_, h⟩
      rcases List.mem_cons.mp hz with rfl | hz
      · exact hxy
      · exact Int.le_trans hxy ((List.pairwise_cons.mp h).1 z hz)
    · rename_i hxy
      refine List.pairwise_cons.mpr ⟨fun z hz => ?_, insI_sorted x r (List.pairwise_cons.mp h).2⟩
      rcases insI_mem hz with rfl | hz
      · omega
      · exact (List.pairwise_cons.mp h).1 z hz
theorem sortI_perm : ∀ l : List Int, (sortI l).Perm l
  | [] => .refl _
  | x :: r => (insI_perm x _).trans ((sortI_perm r).cons x)
theorem sortI_sorted : ∀ l : List Int, (sortI l).Pairwise (· ≤ ·)
  | [] => .nil
  | x :: r => insI_sorted x _ (sortI_sorted r)
theorem maxI_spec : ∀ (l : List Int) (m : Int), (maxI m l = m ∨ maxI m l ∈ l) ∧ m ≤ maxI m l ∧ ∀ y ∈ l, y ≤ maxI m l
  | [], m => ⟨.inl rfl, Int.le_refl _, fun _ h => by cases h⟩
  | x :: r, m => by
    unfold maxI
    by_cases hxm : x > m
    · rw [if_pos hxm]
      obtain ⟨h1, h2, h3⟩ := maxI_spec r x
      refine ⟨.inr ?_, by omega, fun y hy => ?_⟩
      · rcases h1 with h1 | h1
        · rw [h1]; simp
        · exact List.mem_cons_of_mem _ h1
      · rcases List.mem_cons.mp hy with rfl | hy
        · exact h2
        · exact h3 y hy
    · rw [if_neg hxm]
      obtain ⟨h1, h2, h3⟩ := maxI_spec r m
      refine ⟨?_, h2, fun y hy => ?_⟩
      · rcases h1 with h1 | h1
        · exact .inl h1
        · exact .inr (List.mem_cons_of_mem _ h1)
      · rcases List.mem_cons.mp hy with rfl | hy
        · omega
        · exact h3 y hy
theorem minI_spec : ∀ (l : List Int) (m : Int), (minI m l = m ∨ minI m l ∈ l) ∧ minI m l ≤ m ∧ ∀ y ∈ l, minI m l ≤ y
  | [], m => ⟨.inl rfl, Int.le_refl _, fun _ h => by cases h⟩
  | x :: r, m => by
    unfold minI
    by_cases hxm : x < m
    · rw [if_pos hxm]
      obtain ⟨h1, h2, h3⟩ := minI_spec r x
      refine ⟨.inr ?_, by omega, fun y hy => ?_⟩
      · rcases h1 with h1 | h1
        · rw [h1]; simp
        · exact List.mem_cons_of_mem _ h1
      · rcases List.mem_cons.mp hy with rfl | hy
        · exact h2
        · exact h3 y hy
    · rw [if_neg hxm]
      obtain ⟨h1, h2, h3⟩ := minI_spec r m
      refine ⟨?_, h2, fun y hy => ?_⟩
      · rcases h1 with h1 | h1
        · exact .inl h1
        · exact .inr (List.mem_cons_of_mem _ h1)
      · rcases List.mem_cons.mp hy with rfl | hy
        · omega
        · exact h3 y hy

section
variable {K : PySem.W.Frag} {Z H Z' H' : Hp} {x : V} {d : D}
theorem truth_of {k : Bool} (s : Same Z H) (h : RdV K Z H x d) (e : truth d = some k) : TruV K x H k := by
  cases d with
  | none => cases h.none; cases e; exact rfl
  | bool b => cases h.bool; cases e; exact rfl
  | int i => cases h.int; cases e; exact rfl
  | str y =>
    cases h.str
    simp only [truth] at e
    split at e <;> cases e
    rename_i hl
    exact ⟨by rw [← line_eq]; exact hl, rfl⟩
  | list ds =>
    obtain ⟨a, xs, rfl, h1, _, h3⟩ := h.list s
    cases e
    refine .inl ⟨xs, .inl (.inl h1), ?_⟩
    cases h3 <;> rfl
  | tuple ds =>
    obtain ⟨a, xs, rfl, h1, _, h3⟩ := h.tuple s
    cases e
    refine .inr (.inl ⟨xs, .inl (.inl h1), ?_⟩)
    cases h3 <;> rfl
  | dict kvs => cases e
theorem atD_atI {α : Type} (xs : List α) (i : Int) : atD xs i = atI xs i := by
  unfold atD atI ixN
  split
  · rename_i h
    split
    · rfl
    · rename_i h'
      rw [List.getElem?_eq_none (by omega)]
      rfl
  · rename_i h
    by_cases h' : 0 ≤ i + (xs.length : Int)
    · rw [if_pos h', if_pos (by omega)]; rfl
    · rw [if_neg h', if_neg (by omega)]; rfl
theorem Rps.atD {xs : List V} {ds : List D} {i : Int} {y : D} (r : Rps K Z xs ds) (e : Bide.atD ds i = some y) : ∃ v, atI xs i = some v ∧ Rp K Z v y := by
  rw [← atD_atI]
  unfold Bide.atD at e ⊢
  rw [r.length]
  split at e
  · rename_i h
    rw [if_pos h]; exact r.getD e
  · rename_i h
    rw [if_neg h]
    split at e
    · rename_i h'
      rw [if_pos h']; exact r.getD e
    · cases e
theorem Rps.cut {xs : List V} {ds : List D} (lo hi : Option Int) (r : Rps K Z xs ds) : Rps K Z (cutV xs lo hi) (cutL ds lo hi) := by
  unfold cutV cutL
  rw [r.length]
  exact (r.drop _).take _
theorem cutN_sIx (n d : Nat) (o : Option Int) : cutN n d o = HT.sIx n d o := by
  cases o <;> rfl
theorem RpK.length : ∀ {ks : List (Key × V)} {kvs : List (D × D)}, RpK K Z ks kvs → ks.length = kvs.length
  | _, _, .nil => rfl
  | _, _, .cons _ r => by simp [RpK.length r]
theorem RpT.length : ∀ {ks : List (List Key × V)} {kvs : List (D × D)}, RpT K Z ks kvs → ks.length = kvs.length
  | _, _, .nil => rfl
  | _, _, .cons _ _ r => by simp [RpT.length r]
end
def RdVs (K : PySem.W.Frag) (Z H : Hp) : List V → List D → Prop
  | [], [] => True
  | x :: xs, d :: ds => RdV K Z H x d ∧ RdVs K Z H xs ds
  | _, _ => False
def Blt.py : Blt → Value
  | .len => .builtin "len"
  | .abs => .builtin "abs"
  | .int => .type "int"
  | .sum => .builtin "sum"
  | .all => .builtin "all"
  | .any => .builtin "any"
  | .max1 => .builtin "max"
  | .min1 => .builtin "min"
  | .max2 => .builtin "max"
  | .min2 => .builtin "min"
  | .tuple => .type "tuple"
  | .list => .type "list"
  | .sorted => .builtin "sorted"
def bOf (K : PySem.W.Frag) (g : List D → Option RV) : List V → Hp → VK → Prop := fun xs H Q => ∃ Z ds r, Same Z H ∧ RdVs K Z H xs ds ∧ g ds = some r ∧ Give K Z H r Q
section
variable {X : Cx}
theorem rdv1 {K : PySem.W.Frag} {Z H : Hp} {xs : List V} {d : D} (h : RdVs K Z H xs [d]) : ∃ x, xs = [x] ∧ RdV K Z H x d := by
  match xs, h with
  | [x], h => exact ⟨x, rfl, h.1⟩
theorem rdv2 {K : PySem.W.Frag} {Z H : Hp} {xs : List V} {d e : D} (h : RdVs K Z H xs [d, e]) : ∃ x y, xs = [x, y] ∧ RdV K Z H x d ∧ RdV K Z H y e := by
  match xs, h with
  | [x, y], h => exact ⟨x, y, rfl, h.1, h.2.1⟩
theorem len_ok : CallR X (.builtin "len") (bOf X.K (blt .len)) := by
  intro pins s σ H xs us Q I rx h
  obtain ⟨Z, ds, r, sz, hx, hb, g⟩ := h
  unfold blt at hb
  split at hb <;> (first | (rename_i e; cases e; done) | skip)
  · split at hb <;> cases hb
    rename_i n hn
    obtain ⟨x, rfl, hv⟩ := rdv1 hx
    unfold lenOf at hn
    split at hn
    · cases hn
      obtain ⟨a, ys, rfl, h1, h2, h3⟩ := hv.list sz
      exact call_len pins s σ H _ us Q I rx ⟨_, _, rfl, .inl ⟨ys, .inl (.inl h1), h3.length.symm⟩, g.v sz (.int _)⟩
    · cases hn
      obtain ⟨a, ys, rfl, h1, h2, h3⟩ := hv.tuple sz
      exact call_len pins s σ H _ us Q I rx ⟨_, _, rfl, .inr ⟨ys, .inl (.inl h1), h3.length.symm⟩, g.v sz (.int _)⟩
    · split at hn <;> cases hn
      rename_i hl
      cases hv.str
      exact call_len pins s σ H _ us Q I rx ⟨_, _, rfl, ⟨by rw [← line_eq]; exact hl, rfl⟩, g.v sz (.int _)⟩
    · cases hn
      rename_i t kvs
      cases t with
      | false =>
        obtain ⟨a, ks, rfl, h1, h2, h3⟩ := hv.dict sz
        obtain ⟨u, rfl, ru⟩ := vals1 rx
        cases ru
        exact d_len I h1 fun t s' I' => ⟨.int ks.length, H, I', ⟨t, rfl⟩, by rw [h3.length]; exact g.v sz (.int _)⟩
      | true =>
        obtain ⟨a, ks, rfl, h1, h2, h3⟩ := hv.dictT sz
        obtain ⟨u, rfl, ru⟩ := vals1 rx
        obtain rfl : u = .ref a := ru
        obtain ⟨z, hd, ys, rel, dd⟩ := dt_rd I.hok h1
        have hl : ks.length = ys.length := Paired.length rel
        refine call_len_dictH hd dd (by rw [← hl]; rw [sizeLine_eq] at z; omega) ?_
        rw [← hl]
        exact ⟨.int ((ks.length : Nat) : Int), H, I.tok _, ⟨_, rfl⟩, by rw [h3.length]; exact g.v sz (.int _)⟩
    · cases hn
  · cases hb
theorem rpK_ints {K : PySem.W.Frag} {Z : Hp} : ∀ {ks : List (Key × V)} {kvs : List (D × D)} {n : List Int}, RpK K Z ks kvs → intsL (kvs.map (·.1)) = some n → ks.map (·.1) = n.map Sum.inl
  | _, _, n, .nil, e => by
    simp [intsL] at e
    subst e; rfl
  | _, _, n, .cons (k := k) h r, e => by
    cases k with
    | inl i =>
      simp only [List.map_cons, keyD, intsL, Option.map_eq_some_iff] at e
      obtain ⟨m, e1, rfl⟩ := e
      simp only [List.map_cons, rpK_ints r e1]
    | inr x => simp [keyD,intsL] at e
theorem list_ok : CallR X (.type "list") (bOf X.K (blt .list)) := by
  intro pins s σ H xs us Q I rx h
  obtain ⟨Z, ds, r, sz, hx, hb, g⟩ := h
  unfold blt at hb
  split at hb <;> (first | (rename_i e; cases e; done) | skip)
  · cases hb
    obtain ⟨x, rfl, hv⟩ := rdv1 hx
    obtain ⟨a, ys, rfl, h1, h2, h3⟩ := hv.list sz
    exact call_list_of pins s σ H _ us Q I rx ⟨_, ys, rfl, .inl (.inl (.inl h1)), fun l hl => g.lst sz h2 h3 hl⟩
  · cases hb
    obtain ⟨x, rfl, hv⟩ := rdv1 hx
    rcases hv with hv | ⟨a, ea, ⟨_, _, e, _⟩ | ⟨_, ks, e, q1, q2, q3⟩ | ⟨_, _, e, _⟩⟩
    · cases hv with
      | scr h1 h2 h3 => exact call_list_of pins s σ H _ us Q I rx ⟨_, _, rfl, .inl (sqL_same sz h1), fun l hl => g.lst sz h2 h3 hl⟩
    all_goals cases e
  · cases hb
    obtain ⟨x, rfl, hv⟩ := rdv1 hx
    obtain ⟨a, ys, rfl, h1, h2, h3⟩ := hv.tuple sz
    exact call_list_of pins s σ H _ us Q I rx ⟨_, ys, rfl, .inr (.inl (.inl h1)), fun l hl => g.lst sz h2 h3 hl⟩
  · cases hb
theorem blt_ok (hc : X.calm = true) (hu : X.A.units + 65 < cLine) (b : Blt) : CallR X b.py (bOf X.K (blt b)) := by
  cases b
  case len => exact len_ok
  case list => exact list_ok
  all_goals
    intro pins s σ H xs us Q I rx h
    obtain ⟨Z, ds, r, sz, hx, hb, g⟩ := h
    unfold blt at hb
    split at hb <;> (first | (rename_i e; cases e; done) | (cases hb; done) | skip)
  case h_2 =>
    cases hb
    obtain ⟨x, rfl, hv⟩ := rdv1 hx
    cases hv.int
    exact call_abs pins s σ H _ us Q I rx ⟨_, rfl, g.v sz (.int _)⟩
  case h_3 =>
    cases hb
    obtain ⟨x, rfl, hv⟩ := rdv1 hx
    cases hv.int
    exact call_int1 pins s σ H _ us Q I rx (.inl ⟨_, rfl, g.v sz (.int _)⟩)
  case h_4 =>
    cases hb
    obtain ⟨x, rfl, hv⟩ := rdv1 hx
    cases hv.bool
    exact call_int1 pins s σ H _ us Q I rx (.inr ⟨_, rfl, g.v sz (.int _)⟩)
  case h_5 =>
    obtain ⟨n, hn, rfl⟩ := Option.map_eq_some_iff.mp hb
    obtain ⟨x, rfl, hv⟩ := rdv1 hx
    obtain ⟨a, ys, rfl, h1, h2, h3⟩ := hv.list sz
    cases h3.ints hn
    exact cr_sum hc pins s σ H _ us Q I rx ⟨a, n, rfl, .inl (.inl h1), g.v sz (.int _)⟩
  case h_6 =>
    obtain ⟨n, hn, rfl⟩ := Option.map_eq_some_iff.mp hb
    obtain ⟨x, rfl, hv⟩ := rdv1 hx
    obtain ⟨a, ys, rfl, h1, h2, h3⟩ := hv.list sz
    cases h3.bls hn
    exact cr_all hc pins s σ H _ us Q I rx ⟨a, n, rfl, .inl (.inl h1), g.v sz (.bl _)⟩
  case h_7 =>
    obtain ⟨n, hn, rfl⟩ := Option.map_eq_some_iff.mp hb
    obtain ⟨x, rfl, hv⟩ := rdv1 hx
    obtain ⟨a, ys, rfl, h1, h2, h3⟩ := hv.list sz
    cases h3.bls hn
    exact cr_any hc pins s σ H _ us Q I rx ⟨a, n, rfl, .inl (.inl h1), g.v sz (.bl _)⟩
  case h_8 =>
    split at hb <;> cases hb
    rename_i n ns hn
    obtain ⟨x, rfl, hv⟩ := rdv1 hx
    obtain ⟨a, ys, rfl, h1, h2, h3⟩ := hv.list sz
    cases h3.ints hn
    refine cr_max hc pins s σ H _ us Q I rx ⟨a, n :: ns, rfl, .inl (.inl h1), by simp, fun m hm hy => ?_⟩
    obtain ⟨q1, q2, q3⟩ := maxI_spec ns n
    have e : m = maxI n ns := by
      refine Int.le_antisymm ?_ (hy _ ?_)
      · rcases List.mem_cons.mp hm with rfl | hm
        · exact q2
        · exact q3 m hm
      · rcases q1 with q1 | q1
        · rw [q1]; simp
        · exact List.mem_cons_of_mem _ q1
    rw [e]; exact g.v sz (.int _)
  case h_9 =>
    split at hb <;> cases hb
    rename_i n ns hn
    obtain ⟨x, rfl, hv⟩ := rdv1 hx
    obtain ⟨a, ys, rfl, h1, h2, h3⟩ := hv.list sz
    cases h3.ints hn
    refine cr_min hc pins s σ H _ us Q I rx ⟨a, n :: ns, rfl, .inl (.inl h1), by simp, fun m hm hy => ?_⟩
    obtain ⟨q1, q2, q3⟩ := minI_spec ns n
    have e : m = minI n ns := by
      refine Int.le_antisymm (hy _ ?_) ?_
      · rcases q1 with q1 | q1
        · rw [q1]; simp
        · exact List.mem_cons_of_mem _ q1
      · rcases List.mem_cons.mp hm with rfl | hm
        · exact q2
        · exact q3 m hm
    rw [e]; exact g.v sz (.int _)
  case h_10 =>
    cases hb
    obtain ⟨x, y, rfl, hv, hw⟩ := rdv2 hx
    cases hv.int; cases hw.int
    exact call_max2 hc pins s σ H _ us Q I rx ⟨_, _, rfl, g.v sz (.int _)⟩
  case h_11 =>
    cases hb
    obtain ⟨x, y, rfl, hv, hw⟩ := rdv2 hx
    cases hv.int; cases hw.int
    exact call_min2 hc pins s σ H _ us Q I rx ⟨_, _, rfl, g.v sz (.int _)⟩
  case h_12 =>
    cases hb
    obtain ⟨x, rfl, hv⟩ := rdv1 hx
    obtain ⟨a, ys, rfl, h1, h2, h3⟩ := hv.list sz
    exact call_tuple_of pins s σ H _ us Q I rx ⟨_, ys, rfl, .inl ⟨.inl (.inl h1), fun l hl => g.tup sz h2 h3 hl⟩⟩
  case h_13 =>
    cases hb
    obtain ⟨x, rfl, hv⟩ := rdv1 hx
    obtain ⟨a, ys, rfl, h1, h2, h3⟩ := hv.tuple sz
    refine call_tuple_of pins s σ H _ us Q I rx ⟨_, ys, rfl, .inr ⟨.inl (.inl h1), ?_⟩⟩
    rcases hv with hv | ⟨_, _, ⟨_, _, e, _⟩ | ⟨_, _, e, _⟩ | ⟨_, _, e, _⟩⟩
    · exact g.v sz hv
    all_goals cases e
  case h_17 =>
    obtain ⟨x, rfl, hv⟩ := rdv1 hx
    obtain ⟨a, ys, rfl, h1, h2, h3⟩ := hv.list sz
    split at hb
    · rename_i n hn
      cases hb
      cases h3.ints hn
      refine cr_sortedI pins s σ H _ us Q I rx ⟨a, n, rfl, .inl (.inl h1), fun ns' p hp hs hf => ?_⟩
      have e : ns' = sortI n := PySem.W.ksm_same (hp.trans (sortI_perm n).symm) hs (sortI_sorted n)
      rw [e]
      refine g.lst sz ?_ (Rps.ofInts _) hf
      rw [List.length_map, (sortI_perm n).length_eq, ← List.length_map (f := V.int)]
      exact h2
    · split at hb
      · rename_i hs
        cases hb
        obtain rfl := Vals.ref1 rx
        exact sortD_run I sz (.inl (.inl h1)) h3 hs hu fun zs p r hz hf => g.lst sz hz r hf
      · cases hb
  case h_18 =>
    obtain ⟨n, hn, rfl⟩ := Option.map_eq_some_iff.mp hb
    obtain ⟨x, rfl, hv⟩ := rdv1 hx
    obtain ⟨a, ys, rfl, h1, h2, h3⟩ := hv.tuple sz
    cases h3.ints hn
    obtain rfl := Vals.ref1 rx
    refine sortT_run I (.inl (.inl h1)) hu fun ns' p hp hs hf => ?_
    have e : ns' = sortI n := PySem.W.ksm_same (hp.trans (sortI_perm n).symm) hs (sortI_sorted n)
    rw [e]
    refine g.lst sz ?_ (Rps.ofInts _) hf
    rw [List.length_map, (sortI_perm n).length_eq, ← List.length_map (f := V.int)]
    exact h2
  case h_19 =>
    obtain ⟨x, rfl, hv⟩ := rdv1 hx
    split at hb
    · rename_i n hn
      split at hb
      · rename_i hl
        cases hb
        obtain ⟨a, ks, rfl, h1, h2, h3⟩ := hv.dict sz
        have ek := rpK_ints h3 hn
        refine call_sortedDI hc pins s σ H _ us Q I rx ⟨a, ks, n, rfl, h1, ek, hl, fun ns' p hp hs hf => ?_⟩
        have e : ns' = sortI n := PySem.W.ksm_same (hp.trans (sortI_perm n).symm) hs (sortI_sorted n)
        rw [e]
        refine g.lst sz ?_ (Rps.ofInts _) hf
        rw [List.length_map, (sortI_perm n).length_eq, sizeLine_eq]
        omega
      · cases hb
    · cases hb
end
end Bide

set_option autoImplicit false
set_option Elab.async false
set_option maxRecDepth 100000
set_option linter.all false
/-! What a loop walks: a list or a tuple, enumerate of these, zip, range. -/
namespace PySem
open Sem (wp)
set_option maxHeartbeats 1000000 in
theorem bide_newEnum {v : Value} {o : Obj} {H : Heap → Prop} (B : Begins v o H) :
    Meets (Builtin.«enumerate.__new__» ⟨[.type "enumerate", v], []⟩) (fun _ R s => H s.heap ∧
      R (.ok (.ret (.ref (s.heap.push o).objs.size)))
        { s with heap := (s.heap.push o).push { cls := .type "enumerate", data := .fields #[.none, .bool false, .ref s.heap.objs.size, rawInt 0, .none, .none] } }) :=
  .of_wp fun prog w A R s h => by
    obtain ⟨hp, g, d, tk, os⟩ := s
    obtain ⟨hB, hR⟩ := h
    have hsub := sub_enumerate
    have step : ∀ {A' : Around} {E : Value → Shared → Prop} {Q : Value → Shared → Prop}, Q (.ref hp.objs.size) ⟨hp.push o, g, d, tk, os⟩ →
        wpAny (model prog w) A' (pyIter v) Q E ⟨hp, g, d, tk, os⟩ := fun q => B.iter prog w _ _ ⟨hp, g, d, tk, os⟩ _ hB q
    wp_walk using step
    refine wpAny_stack_any fun st => wpAny_pure ?_
    split
    · rename_i c _ _ _ _ _
      cases (c == Value.type "enumerate") <;> (wp_walk using step; exact ⟨_, rfl, hR⟩)
    · wp_walk using step
      exact ⟨_, rfl, hR⟩
theorem bide_callEnum {prog : Program} {w : World} {A : Around} {E : Value → Shared → Prop} {s : Shared} {v : Value} {o : Obj} {H : Heap → Prop} {Q : Value → Shared → Prop} (B : Begins v o H) (hB : H s.heap)
    (h : ∀ h', IsEnum h' (s.heap.objs.size + 1) s.heap.objs.size 0 .none → h'.get? s.heap.objs.size = some o → (∀ b u, s.heap.get? b = some u → h'.get? b = some u) →
      Q (.ref (s.heap.objs.size + 1)) { s with heap := h' }) : wpAny (model prog w) A (call (.type "enumerate") [v]) Q E s := by
  refine callType_new F.called_enumerate (by decide) (F.typeCall_enumerate_1 _) (F.newCall_enumerate_1 _) (fun obj => F.args_object_init_2 obj _) F.entry_enumerate_new (bide_newEnum B) ⟨hB, ?_⟩
  have hz : (s.heap.push o).objs.size = s.heap.objs.size + 1 := Heap.size_push ..
  show _ ∧ _
  rw [hz]
  have he := Heap.get?_push_size (s.heap.push o) (o := { cls := .type "enumerate", data := .fields #[.none, .bool false, .ref s.heap.objs.size, rawInt 0, .none, .none] }) rfl
  rw [hz] at he
  exact ⟨⟨_, he, rfl⟩, h _ he (Heap.get?_push_of_some _ (Heap.get?_push_size _ B.free)) fun b u x => Heap.get?_push_of_some _ (Heap.get?_push_of_some _ x)⟩
end PySem
namespace Bide
open PySem L2 PyProof.Rows
/-- a list or a tuple -/
def iSeq (K : PySem.W.Frag) (tl : TE) : TI := fun σ H R => tl σ H fun x H1 => ∃ a, x = .ref a ∧ (((∃ xs, SqL K H1 a xs) ∧ R (Itl K a) H1) ∨ ((∃ xs, SqT K H1 a xs) ∧ R (Itt K a) H1))
section
variable {X : Cx} {tg : Expr}
theorem pi_seq {l : Expr} {tl : TE} (hl : PE X l tl) : PI X tg l (iSeq X.K tl) := by
  constructor
  intro pins s σ H R I h
  refine thn (hl.run pins s σ H _ I h) fun v s1 ⟨x, H1, I1, r1, a, ex, q⟩ => ?_
  subst ex
  obtain rfl : v = Value.ref a := r1
  have old : ∀ b ∈ [s1.heap.objs.size], FpOk X pins H1 b := fun b hb => by
    cases List.mem_singleton.mp hb
    exact I1.fpOk (Nat.le_refl _) (I1.hok.fresh (Nat.le_refl _))
  rcases q with ⟨⟨xs, hq⟩, q⟩ | ⟨⟨xs, hq⟩, q⟩
  · obtain ⟨its, _, p, _⟩ := I1.list hq
    exact wpAny_pyIter_list p.isList ⟨_, [s1.heap.objs.size], _, _, H1, rfl, I1.kept (t' := s1.toks) fun b o e => Heap.get?_push_of_some _ e, turn_list a _, ⟨_, Heap.get?_push_size _ rfl, rfl, rfl⟩, old, q⟩
  · obtain ⟨its, _, p, _⟩ := I1.tuple hq
    exact wpAny_pyIter_tuple (show s1.heap.IsTuple a its.toArray from p) ⟨_, [s1.heap.objs.size], _, _, H1, rfl, I1.kept (t' := s1.toks) fun b o e => Heap.get?_push_of_some _ e, turn_tuple a _, ⟨_, Heap.get?_push_size _ rfl, rfl, rfl⟩, old, q⟩
end
/-- enumerate(tuple) -/
def IteT (K : PySem.W.Frag) (a : Addr) (n : Nat) : L2.It where
  go := fun i H => ∃ xs x, SqT K H a xs ∧ xs.length = n ∧ xs[i]? = some x
  yld := fun i H v H' => ∃ t x, v = .ref t ∧ H t = none ∧ H' = upd H t (.tup [.int (i : Nat), x]) ∧ ∀ xs, SqT K H a xs → xs[i]? = some x
  stop := fun i H => ∃ xs, SqT K H a xs ∧ xs.length = n ∧ n ≤ i
theorem tup_ne {h : Heap} {a b : Addr} {items : Array Value} {u : Obj} (p : IsTup h a items) (e : h.get? b = some u) (c : u.cls ≠ .type "tuple") : a ≠ b := by
  rintro rfl
  obtain ⟨o, e1, e2, _⟩ := p
  rw [e] at e1
  cases e1
  exact c e2
theorem turn_enumT {P : Program} {w : World} {K : PySem.W.Frag} {elts : List Expr} {kk : Nat} {tpos : Pos} (a : Addr) (n : Nat) (e it : Addr) :
    Turn P w K (.Tuple elts kk tpos) (IteT K a n) [e, it] e (fun i h => (∃ old, IsEnum h e it ((i : Nat) : Int) old) ∧ h.IsTupleIter it a i ∧ e ≠ it ∧ i ≤ n) where
  mem := List.mem_cons_self
  obj := by
    rintro i h ⟨⟨old, he⟩, ⟨o, ho, hc, hd⟩, _, _⟩ b hb
    rcases List.mem_cons.mp hb with rfl | hb
    · exact ⟨_, he, fun v q => nomatch q⟩
    · cases List.mem_singleton.mp hb
      exact ⟨o, ho, fun v q => by rw [hd] at q; cases q⟩
  keep := by
    rintro i h h' ⟨⟨old, he⟩, hi, hne, hin⟩ k
    exact ⟨⟨old, k e (by simp) _ he⟩, hi.at fun o q => k it (by simp) o q, hne, hin⟩
  item := by
    intro X hP hw hK hc i pins s σ H E I hf st hg
    subst hP hw hK
    obtain ⟨⟨old, he⟩, hit, hne, hin⟩ := st
    obtain ⟨xs, x, hq, hn, hx⟩ := hg
    obtain ⟨its, rv, p, hz⟩ := I.tuple hq
    obtain ⟨u, hu, ru⟩ := rv.get hx
    have hel : e < s.heap.objs.size := Heap.lt_size he
    have hil : it < s.heap.objs.size := by obtain ⟨_, q, _⟩ := hit; exact Heap.lt_size q
    have hae : a ≠ e := tup_ne p he (fun z => by injection z with z; exact absurd z (by decide))
    have hai : a ≠ it := by obtain ⟨o, ho, hc', _⟩ := id hit; exact tup_ne p ho (by rw [hc']; intro z; injection z with z; exact absurd z (by decide))
    have hlt : i < its.toArray.size := by
      have := (List.getElem?_eq_some_iff.mp hu).1
      simpa using this
    have D := Draws.tuple (prog := X.prog) (w := X.w) (A := X.A.in1) (I.ok.hd hc) it a hai its.toArray
    refine wpAny_pyNext_enum_itemD D he ⟨hit, p⟩ hlt hne (by simp [hne,Ne.symm hae]) fun x' h' tk hx' ho st' hT hsz hk => ?_
    have ex : x' = u := by
      have : its.toArray[i]? = some u := by simpa using hu
      rw [this] at hx'
      exact (Option.some.inj hx').symm
    subst ex
    refine ⟨_, rfl, wpAny_letOwnedTupleGo_enum (s := { s with heap := h', toks := tk + 1 }) ho fun h'' he' sb => ?_⟩
    have hT2 : h''.get? s.heap.objs.size = some { cls := .type "tuple", data := .seq #[.int i tk, x'] } := (sb.2 _ (Nat.ne_of_gt hel)).trans hT
    have new : ObjOk X.prog X.w (upd H s.heap.objs.size (.tup [.int (i : Nat), x])) h'' s.heap.objs.size (.tup [.int (i : Nat), x]) :=
      ⟨by show 2 ≤ sizeLine; decide, [.int i tk, x'], .cons ⟨_, rfl⟩ (.cons ru .nil), ⟨_, hT2, rfl, _, rfl⟩⟩
    have I1 : Inv X pins σ (upd H s.heap.objs.size (.tup [.int (i : Nat), x])) { s with heap := h'', toks := tk + 1 } :=
      I.turnedNew (ch := [e, it]) (fun b ob hb q => (sb.2 b (fun z => hb (by simp [z]))).trans (hk b ob (fun z => hb (by simp [z])) (fun z => hb (by simp [z])) q)) hf (Nat.le_refl _) new
    refine ⟨.ref s.heap.objs.size, _, I1, rfl, ⟨_, x, rfl, I.hok.fresh (Nat.le_refl _), rfl, fun ys hy => ?_⟩, ⟨⟨x', ?_⟩, st'.1.at fun o q => (sb.2 it (Ne.symm hne)).trans q, hne, by rw [← hn]; exact (List.getElem?_eq_some_iff.mp hx).1⟩, fun b hb => ?_⟩
    · have : ys = xs := I.tuple_inj hy hq
      rw [this]; exact hx
    · rw [show ((i + 1 : Nat) : Int) = (i : Int) + 1 by omega]
      exact he'
    · have hb' : b < s.heap.objs.size := by
        rcases List.mem_cons.mp hb with rfl | hb
        · exact hel
        · cases List.mem_singleton.mp hb; exact hil
      rw [upd_ne (Nat.ne_of_lt hb')]
      exact (hf b hb).1
  done := by
    intro X hP hw hK hc i pins s σ H E I hf st hg
    subst hP hw hK
    obtain ⟨⟨old, he⟩, hit, hne, hin⟩ := st
    obtain ⟨xs, hq, hn, hx⟩ := hg
    obtain ⟨its, rv, p, hz⟩ := I.tuple hq
    obtain ⟨f0, f1, f2, f3, f4, f5⟩ := hf it (by simp)
    have hai : a ≠ it := by obtain ⟨o, ho, hc', _⟩ := id hit; exact tup_ne p ho (by rw [hc']; intro z; injection z with z; exact absurd z (by decide))
    have D := Draws.tuple (prog := X.prog) (w := X.w) (A := X.A.in1) (I.ok.hd hc) it a hai its.toArray
    have ei : i = its.toArray.size := by rw [List.size_toArray, ← rv.length]; omega
    rw [ei] at hit
    exact wpAny_pyNext_enum_endD D he ⟨hit, p⟩ fun h' eb => ⟨rfl, I.turned (t' := s.toks) (fun b o hb q => eb b o hb q) f0 f1 f3 f4 f5⟩
  self := fun A i s Q E st h => let ⟨⟨_, he⟩, _⟩ := st; wpAny_pyIter_enum he h
/-- enumerate of a list or a tuple -/
def iEnumA (K : PySem.W.Frag) (ta : TA) : TI := fun σ H R => ta σ H fun vs H1 => ∃ a, vs = [.ref a] ∧ (((∃ xs, SqL K H1 a xs) ∧ R (Ite K a) H1) ∨ (∃ xs, SqT K H1 a xs ∧ R (IteT K a xs.length) H1))
theorem pi_enumA {X : Cx} {e : Expr} {ta : TA} {p pos tpos : Pos} {elts : List Expr} {kk : Nat} (hg : Gl X "enumerate") (hm : X.mg "enumerate" = none) (ha : PA X [e] ta) (hs : starEach [e] X.env = [(false, eval e X.env)]) :
    PI X (.Tuple elts kk tpos) (.Call (.Name "enumerate" p) [e] [] pos) (iEnumA X.K ta) := by
  constructor
  intro pins s σ H R I h
  refine Call_ (ld_blt I hg hm boot_enumerate (PyProof.Rows.callWith_type1 (thn (ha.run pos pins s σ H _ I h) fun us s1 ⟨vs, H1, I1, r1, a, ex, q⟩ => ?_) hs rfl))
  subst ex
  have eu := Vals.ref1 r1
  subst eu
  have old : ∀ b ∈ [s1.heap.objs.size + 1, s1.heap.objs.size], FpOk X pins H1 b := fun b hb => by
    have hle : s1.heap.objs.size ≤ b := by
      rcases List.mem_cons.mp hb with rfl | hb
      · exact Nat.le_add_right _ _
      · cases List.mem_singleton.mp hb; exact Nat.le_refl _
    exact I1.fpOk hle (I1.hok.fresh hle)
  rcases q with ⟨⟨xs, hq⟩, q⟩ | ⟨xs, hq, q⟩
  · obtain ⟨its, _, p', _⟩ := I1.list hq
    refine call_enumerate_list p'.isList fun h' he hit _ hk => wpAny_pyIter_enum he ?_
    exact ⟨_, _, _, _, H1, rfl, I1.kept (t' := s1.toks) hk, turn_enum a (s1.heap.objs.size + 1) s1.heap.objs.size, ⟨⟨.none, he⟩, hit, Nat.succ_ne_self _⟩, old, q⟩
  · obtain ⟨its, _, p', _⟩ := I1.tuple hq
    refine bide_callEnum (begins_tuple a its.toArray) p' fun h' he hit hk => wpAny_pyIter_enum he ?_
    exact ⟨_, _, _, _, H1, rfl, I1.kept (t' := s1.toks) hk, turn_enumT a xs.length (s1.heap.objs.size + 1) s1.heap.objs.size, ⟨⟨.none, he⟩, ⟨_, hit, rfl, rfl⟩, Nat.succ_ne_self _, Nat.zero_le _⟩, old, q⟩

/-! ### the walks, as data -/
/-- J gives the data ds, whatever grows meanwhile -/
def WalkOk (K : PySem.W.Frag) (J : L2.It) (Z0 : Hp) (ds : List D) : Prop := ds.length ≤ sizeLine ∧ ∃ (G : Hp → Prop) (Y : Nat → Hp → V → Hp → Prop), Walk J ds.length G Y ∧ (∀ Z H, Same Z0 Z → Same Z H → G H) ∧
  ∀ i H x H' Z, i < ds.length → Y i H x H' → Same Z0 Z → Same Z H → ∃ Z' d, ds[i]? = some d ∧ Grow Z H Z' H' ∧ Rp K Z' x d
/-- a walk over what is held, too -/
def WalkOkF (K : PySem.W.Frag) (J : L2.It) (Z0 F : Hp) (ds : List D) : Prop := ds.length ≤ sizeLine ∧ ∃ (G : Hp → Prop) (Y : Nat → Hp → V → Hp → Prop), Walk J ds.length G Y ∧ (∀ Z H, Same Z0 Z → Same Z H → Same F H → G H) ∧
  ∀ i H x H' Z, i < ds.length → Y i H x H' → Same Z0 Z → Same Z H → Same F H → ∃ Z' d, ds[i]? = some d ∧ Grow Z H Z' H' ∧ Rp K Z' x d
theorem WalkOk.f {K : PySem.W.Frag} {J : L2.It} {Z0 : Hp} {ds : List D} (h : WalkOk K J Z0 ds) (F : Hp) : WalkOkF K J Z0 F ds := by
  obtain ⟨h1, G, Y, h2, h3, h4⟩ := h
  exact ⟨h1, G, Y, h2, fun Z H a b _ => h3 Z H a b, fun i H x H' Z a b c d _ => h4 i H x H' Z a b c d⟩
section
variable {K : PySem.W.Frag} {Z0 : Hp} {a b : Addr} {xs ys : List V} {ds es : List D}
theorem walkOk_own {F : Hp} (l : xs.length ≤ sizeLine) (h : F a = some (.lst xs)) (r : Rps K Z0 xs ds) : WalkOkF K (Itl K a) Z0 F ds := by
  refine ⟨by rw [← r.length]; exact l, fun H => SqL K H a xs, YAt xs, by rw [← r.length]; exact walk_list, fun Z H s1 s2 s3 => .inl (.inl (s3 _ _ h)), fun i H x H' Z _ y s1 s2 _ => ?_⟩
  obtain ⟨rfl, hx⟩ := y
  obtain ⟨d, hd, rd⟩ := r.get hx
  exact ⟨Z, d, hd, Grow.refl s2, rd.mono s1⟩
theorem walkOk_list (l : xs.length ≤ sizeLine) (h : Z0 a = some (.lst xs)) (r : Rps K Z0 xs ds) : WalkOk K (Itl K a) Z0 ds := by
  refine ⟨by rw [← r.length]; exact l, fun H => SqL K H a xs, YAt xs, by rw [← r.length]; exact walk_list, fun Z H s1 s2 => .inl (.inl (s2 _ _ (s1 _ _ h))), fun i H x H' Z _ y s1 s2 => ?_⟩
  obtain ⟨rfl, hx⟩ := y
  obtain ⟨d, hd, rd⟩ := r.get hx
  exact ⟨Z, d, hd, Grow.refl s2, rd.mono s1⟩
theorem walkOk_tup (l : xs.length ≤ sizeLine) (h : ∀ Z H, Same Z0 Z → Same Z H → SqT K H a xs) (r : Rps K Z0 xs ds) : WalkOk K (Itt K a) Z0 ds := by
  refine ⟨by rw [← r.length]; exact l, fun H => SqT K H a xs, YAt xs, by rw [← r.length]; exact walk_tup, h, fun i H x H' Z _ y s1 s2 => ?_⟩
  obtain ⟨rfl, hx⟩ := y
  obtain ⟨d, hd, rd⟩ := r.get hx
  exact ⟨Z, d, hd, Grow.refl s2, rd.mono s1⟩
theorem walkOk_range (lo : Int) (n : Nat) (l : n ≤ sizeLine) : WalkOk K (Itr lo n) Z0 (rngD lo n) := by
  have hl : (rngD lo n).length = n := by simp [rngD]
  refine ⟨by rw [hl]; exact l, fun _ => True, YFn fun i => .int (lo + i), by rw [hl]; exact walk_range, fun _ _ _ _ => trivial, fun i H x H' Z hi y s1 s2 => ?_⟩
  obtain ⟨rfl, rfl⟩ := y
  rw [hl] at hi
  exact ⟨Z, .int (lo + i), by simp [rngD,hi], Grow.refl s2, .int _⟩
theorem pair_grow {Z H : Hp} {x y : V} {d e : D} {t : Addr} (s : Same Z H) (ht : H t = none) (rx : Rp K Z x d) (ry : Rp K Z y e) :
    Grow Z H (upd Z t (.tup [x, y])) (upd H t (.tup [x, y])) ∧ Rp K (upd Z t (.tup [x, y])) (.ref t) (.tuple [d, e]) := by
  have g := Grow.new (o := .tup [x, y]) s ht
  exact ⟨g, .tup upd_same (by show 2 ≤ sizeLine; decide) (.cons (rx.mono g.zz) (.cons (ry.mono g.zz) .nil))⟩
theorem enumD_get {i : Nat} {d : D} (h : ds[i]? = some d) : (enumD ds)[i]? = some (.tuple [.int (i : Nat), d]) := by
  unfold enumD
  have hi := (List.getElem?_eq_some_iff.mp h).1
  rw [List.getElem?_map, (List.getElem?_zip_eq_some (z := (i, d))).mpr ⟨by rw [List.getElem?_range hi], h⟩]
  rfl
theorem enumD_length : (enumD ds).length = ds.length := by simp [enumD]
theorem walkOk_enum (l : xs.length ≤ sizeLine) (h : Z0 a = some (.lst xs)) (r : Rps K Z0 xs ds) : WalkOk K (Ite K a) Z0 (enumD ds) := by
  refine ⟨by rw [enumD_length, ← r.length]; exact l, fun H => SqL K H a xs, _, by rw [enumD_length, ← r.length]; exact walk_enum, fun Z H s1 s2 => .inl (.inl (s2 _ _ (s1 _ _ h))), fun i H x H' Z _ y s1 s2 => ?_⟩
  obtain ⟨t, u, v, rfl, ht, rfl, hu, hv⟩ := y
  cases hu
  obtain ⟨d, hd, rd⟩ := r.get hv
  obtain ⟨g, q⟩ := pair_grow s2 ht (Rp.int (K := K) _) (rd.mono s1)
  exact ⟨_, _, enumD_get hd, g, q⟩
theorem walk_enumT {n : Nat} (hn : n = xs.length) : Walk (IteT K a n) xs.length (fun H => SqT K H a xs) (YPair (fun i => some (.int (i : Nat))) (fun i => xs[i]?)) := by
  subst hn
  refine ⟨fun i H hi q => ⟨xs, xs[i], q, rfl, by simp [hi]⟩, fun H q => ⟨xs, q, rfl, Nat.le_refl _⟩, fun i H v H' hi q y => ?_⟩
  obtain ⟨t, x, h1, h2, h3, h4⟩ := y
  exact ⟨t, .int (i : Nat), x, h1, h2, h3, rfl, h4 xs q⟩
theorem walkOk_enumT (l : xs.length ≤ sizeLine) (h : Z0 a = some (.tup xs)) (r : Rps K Z0 xs ds) : WalkOk K (IteT K a xs.length) Z0 (enumD ds) := by
  refine ⟨by rw [enumD_length, ← r.length]; exact l, fun H => SqT K H a xs, _, by rw [enumD_length, ← r.length]; exact walk_enumT rfl, fun Z H s1 s2 => .inl (.inl (s2 _ _ (s1 _ _ h))), fun i H x H' Z _ y s1 s2 => ?_⟩
  obtain ⟨t, u, v, rfl, ht, rfl, hu, hv⟩ := y
  cases hu
  obtain ⟨d, hd, rd⟩ := r.get hv
  obtain ⟨g, q⟩ := pair_grow s2 ht (Rp.int (K := K) _) (rd.mono s1)
  exact ⟨_, _, enumD_get hd, g, q⟩
theorem zipD_get {i : Nat} {d e : D} (h : ds[i]? = some d) (h' : es[i]? = some e) : (zipD ds es)[i]? = some (.tuple [d, e]) := by
  unfold zipD
  rw [List.getElem?_map, (List.getElem?_zip_eq_some (z := (d, e))).mpr ⟨h, h'⟩]
  rfl
theorem zipD_length : (zipD ds es).length = min ds.length es.length := by simp [zipD]
theorem walkOk_zip (l : xs.length ≤ sizeLine) (h : Z0 a = some (.lst xs)) (h' : Z0 b = some (.lst ys)) (r : Rps K Z0 xs ds) (r' : Rps K Z0 ys es) : WalkOk K (Itz K a b) Z0 (zipD ds es) := by
  refine ⟨by rw [zipD_length, ← r.length]; exact Nat.le_trans (Nat.min_le_left _ _) l, fun H => SqL K H a xs ∧ SqL K H b ys, _, by rw [zipD_length, ← r.length, ← r'.length]; exact walk_zip rfl, fun Z H s1 s2 => ⟨.inl (.inl (s2 _ _ (s1 _ _ h))), .inl (.inl (s2 _ _ (s1 _ _ h')))⟩, fun i H x H' Z _ y s1 s2 => ?_⟩
  obtain ⟨t, u, v, rfl, ht, rfl, hu, hv⟩ := y
  obtain ⟨d, hd, rd⟩ := r.get hu
  obtain ⟨e, he, re⟩ := r'.get hv
  obtain ⟨g, q⟩ := pair_grow s2 ht (rd.mono s1) (re.mono s1)
  exact ⟨_, _, zipD_get hd he, g, q⟩
theorem walk_zipT {n : Nat} (hn : n = min xs.length ys.length) : Walk (RZ.ItzT K a b) n (fun H => SqT K H a xs ∧ SqT K H b ys) (YPair (fun i => xs[i]?) (fun i => ys[i]?)) := by
  subst hn
  refine ⟨fun i H hi q => ?_, fun H q => ⟨xs, ys, q.1, q.2, by omega⟩, fun i H v H' hi q y => ?_⟩
  · exact ⟨xs, ys, xs[i]'(by omega), ys[i]'(by omega), q.1, q.2, by simp, by simp⟩
  · obtain ⟨t, x, z, h1, h2, h3, h4, h5⟩ := y
    exact ⟨t, x, z, h1, h2, h3, h4 xs q.1, h5 ys q.2⟩
theorem walkOk_zipT (l : xs.length ≤ sizeLine) (h : Z0 a = some (.tup xs)) (h' : Z0 b = some (.tup ys)) (r : Rps K Z0 xs ds) (r' : Rps K Z0 ys es) : WalkOk K (RZ.ItzT K a b) Z0 (zipD ds es) := by
  refine ⟨by rw [zipD_length, ← r.length]; exact Nat.le_trans (Nat.min_le_left _ _) l, fun H => SqT K H a xs ∧ SqT K H b ys, _, by rw [zipD_length, ← r.length, ← r'.length]; exact walk_zipT rfl, fun Z H s1 s2 => ⟨.inl (.inl (s2 _ _ (s1 _ _ h))), .inl (.inl (s2 _ _ (s1 _ _ h')))⟩, fun i H x H' Z _ y s1 s2 => ?_⟩
  obtain ⟨t, u, v, rfl, ht, rfl, hu, hv⟩ := y
  obtain ⟨d, hd, rd⟩ := r.get hu
  obtain ⟨e, he, re⟩ := r'.get hv
  obtain ⟨g, q⟩ := pair_grow s2 ht (rd.mono s1) (re.mono s1)
  exact ⟨_, _, zipD_get hd he, g, q⟩
end
end Bide

set_option autoImplicit false
set_option Elab.async false
set_option maxRecDepth 100000
set_option linter.all false
/-! What an evaluation says of a body's state; when a text of Python is one of the small language. -/
namespace Bide
open PySem L2

def sN (x : String) : Str := Str.ofString x

/-! ### outcomes -/
/-- an exception of ours: its class, its fields in its own dict -/
def ExOk (K : PySem.W.Frag) (ca : String → Option Addr) (xf : String → List String) (x : Exc) (cls : Value) (dd : Option Addr) (H Z : Hp) : Prop :=
  ∃ C d fs, ca x.c = some C ∧ cls = .ref C ∧ dd = some d ∧ H d = some (.xd fs) ∧ ∀ (i : Nat) n y, (xf x.c)[i]? = some n → x.fs[i]? = some y → ∃ v, fs.lookup (sN n) = some v ∧ Rp K Z v y

/-- what all parts of a body's soundness share -/
structure Wd where
  K : PySem.W.Frag
  cf : Cf
  ren : String → String
  ca : String → Option Addr
  xf : String → List String
  c : En
  W : WX

def Out (w : Wd) {α : Type} (σ : L2.St) (Z : Hp) (r : R α) (k : α → Ev → Hp → Hp → (Nat → List Addr) → Prop) : Prop :=
  match r with
  | .ok a e => ∀ H' Z' A', Same Z Z' → RS w.K w.c σ H' Z' e A' → k a e H' Z' A'
  | .ex x e => ∀ H' Z' A' cls dd, Same Z Z' → RS w.K w.c σ H' Z' e A' → ExOk w.K w.ca w.xf x cls dd H' Z' → w.W cls dd σ H'
  | .bad => False
section
variable {w : Wd} {α β : Type} {σ : L2.St} {H Z Z' : Hp} {r : R α} {f : α → Ev → R β} {k : β → Ev → Hp → Hp → (Nat → List Addr) → Prop} {k1 k2 : α → Ev → Hp → Hp → (Nat → List Addr) → Prop}
theorem Out.same (h : Out w σ Z r k1) (s : Same Z Z') : Out w σ Z' r k1 := by
  cases r with
  | ok a e => exact fun H' Z'' A' s' => h H' Z'' A' (s.trans s')
  | ex x e => exact fun H' Z'' A' cls dd s' => h H' Z'' A' cls dd (s.trans s')
  | bad => exact h
theorem Out.bnd (h : Out w σ Z (r.bind f) k) : Out w σ Z r (fun a e _ Z1 _ => Out w σ Z1 (f a e) k) := by
  cases r with
  | ok a e => exact fun H' Z'' A' s' _ => Out.same (r := f a e) h s'
  | ex x e => exact h
  | bad => exact h
theorem Out.impE (h : Out w σ Z r k1) (i : ∀ a e, r = .ok a e → ∀ H1 Z1 A1, Same Z Z1 → RS w.K w.c σ H1 Z1 e A1 → k1 a e H1 Z1 A1 → k2 a e H1 Z1 A1) : Out w σ Z r k2 := by
  cases r with
  | ok a e => exact fun H' Z'' A' s' R => i a e rfl H' Z'' A' s' R (h H' Z'' A' s' R)
  | ex x e => exact h
  | bad => exact h
theorem Out.imp (h : Out w σ Z r k1) (i : ∀ a e H1 Z1 A1, Same Z Z1 → RS w.K w.c σ H1 Z1 e A1 → k1 a e H1 Z1 A1 → k2 a e H1 Z1 A1) : Out w σ Z r k2 := by
  cases r with
  | ok a e => exact fun H' Z'' A' s' R => i a e H' Z'' A' s' R (h H' Z'' A' s' R)
  | ex x e => exact h
  | bad => exact h
end

def semE (w : Wd) (e : E) : TE := fun σ H Q => ∃ ev Z A, RS w.K w.c σ H Z ev A ∧ Out w σ Z (evE w.cf e ev) fun r ev' H' Z' A' => ∀ x, RR w.K w.c σ H' Z' ev' A' x r → Q x H'
def semT (w : Wd) (t : T) : TT := fun σ H Q => ∃ ev Z A, RS w.K w.c σ H Z ev A ∧ Out w σ Z (evT w.cf t ev) fun r ev' H' Z' A' => Q r H'
def RRs (K : PySem.W.Frag) (c : En) (σ : L2.St) (H Z : Hp) (ev : Ev) (A : Nat → List Addr) : List V → List RV → Prop
  | [], [] => True
  | x :: xs, r :: rs => RR K c σ H Z ev A x (stl r) ∧ RRs K c σ H Z ev A xs rs
  | _, _ => False
def semEs (w : Wd) (es : Es) : TA := fun σ H Q => ∃ ev Z A, RS w.K w.c σ H Z ev A ∧ Out w σ Z (evEs w.cf es ev) fun r ev' H' Z' A' => ∀ xs, RRs w.K w.c σ H' Z' ev' A' xs r → Q xs H'
def semO (w : Wd) (o : O) : TO := fun σ H Q => ∃ ev Z A, RS w.K w.c σ H Z ev A ∧ Out w σ Z (evO w.cf o ev) fun r ev' H' Z' A' => Q r H'
def semC (w : Wd) (t : C) : TT := fun σ H Q => ∃ ev Z A, RS w.K w.c σ H Z ev A ∧ Out w σ Z (evC w.cf t ev) fun r ev' H' Z' A' => Q r H'
def semIt (w : Wd) (t : It) : TI := fun σ H R => ∃ ev Z A, RS w.K w.c σ H Z ev A ∧ Out w σ Z (evIt w.cf t ev) fun ds ev' H' Z' A' => ∀ J, WalkOk w.K J Z' ds → R J H'

/-! ### a function's promise -/
/-- the arguments: shared ones, and lent lists -/
inductive Args (K : PySem.W.Frag) (Z H : Hp) : Nat → List Bool → List V → List D → List (Nat × Addr) → Prop
  | nil (i : Nat) : Args K Z H i [] [] [] []
  | sh {i : Nat} {bs : List Bool} {v : V} {vs : List V} {d : D} {ds : List D} {P : List (Nat × Addr)} : Rp K Z v d → Args K Z H (i + 1) bs vs ds P → Args K Z H i (false :: bs) (v :: vs) (d :: ds) P
  | io {i : Nat} {bs : List Bool} {a : Addr} {xs : List V} {ys : List D} {vs : List V} {ds : List D} {P : List (Nat × Addr)} : H a = some (.lst xs) → xs.length ≤ sizeLine → Rps K Z xs ys → Z a = none → (∀ j, (j, a) ∉ P) →
      Args K Z H (i + 1) bs vs ds P → Args K Z H i (true :: bs) (.ref a :: vs) (.list ys :: ds) ((i, a) :: P)
/-- behind the call -/
structure Post (Z H Z' H' : Hp) (P : List (Nat × Addr)) : Prop where
  zz : Same Z Z'
  sub : Same Z' H'
  zf : ∀ p o, Z' p = some o → Z p = some o ∨ H p = none ∨ HoTup o
  fr : ∀ p o, H p = some o → (∀ i, (i, p) ∉ P) → H' p = some o
inductive Outs (K : PySem.W.Frag) (Z H : Hp) : List (Nat × Addr) → List (List D) → Prop
  | nil : Outs K Z H [] []
  | cons {i : Nat} {a : Addr} {xs : List V} {ys : List D} {P : List (Nat × Addr)} {o : List (List D)} : H a = some (.lst xs) → xs.length ≤ sizeLine → Rps K Z xs ys → Z a = none → Outs K Z H P o → Outs K Z H ((i, a) :: P) (ys :: o)
def spOf (K : PySem.W.Frag) (ca : String → Option Addr) (xf : String → List String) (F : Fn) : Sp := fun vs H Q E => ∃ Z ds P, Same Z H ∧ Args K Z H 0 F.io vs ds P ∧
  match F.run ds with
  | .ok r outs => ∀ x H' Z', Post Z H Z' H' P → Outs K Z' H' P outs → New K H Z' H' x r → Q x H'
  | .ex x => ∀ cls dd H' Z', Post Z H Z' H' P → ExOk K ca xf x cls dd H' Z' → E cls dd H'
  | .bad => False

/-! ### the context -/
def bltNames : List String := ["len", "abs", "int", "sum", "all", "any", "max", "min", "tuple", "list", "sorted", "isinstance", "range", "enumerate", "zip", "bool", "str"]
structure XOk (w : Wd) (k : Nat) (N : List Str) (fb : Str → Bool) (X : Cx) : Prop where
  K : X.K = w.K
  N : X.N = N
  calm : X.calm = true
  nd : X.N.Nodup
  room : Room k X.A
  fns : ∀ f F, w.cf.G f = some F → ∃ a fd ps, X.mg (sN (w.ren f)) = some (.ref a) ∧ PySem.W.keepIn X.K (.ref a) = true ∧ Binds X.K fd ps [] ∧ FnOk X.prog X.w X.K X.mg X.base (L2.CX X.prog X.w) k a fd ps (spOf X.K w.ca w.xf F)
  gls : ∀ x d, w.cf.gl x = some d → ∃ v u, X.mg (sN x) = some u ∧ RelV v u ∧ ∀ Z, Rp X.K Z v d
  blt : ∀ x ∈ bltNames, X.mg (sN x) = none
  fn : ∀ x, fb x = true → X.fn x = true

/-! ### the texts -/
def vis (sc : Scope) (x : Str) : Bool := match sc.names.lookup x with
  | some .local => true
  | some .cell => true
  | some .free => true
  | _ => false
def glb (sc : Scope) (x : Str) : Bool := match sc.names.lookup x with
  | some .globalImplicit => true
  | _ => false
def dbgN : Str := Str.ofString "__debug__"
def cldN : Str := Str.ofString "__classdict__"
def isN (x : Str) (s : String) : Bool := decide (x = sN s)
def okName (x : Str) : Bool := !(x == dbgN) && !(x == cldN)
def rdSlot (N : List Str) (sc : Scope) (i : Nat) (x : Str) : Bool := decide (N[i]? = some x) && vis sc x && okName x
def wrSlot (N : List Str) (sc : Scope) (fb : Str → Bool) (i : Nat) (x : Str) : Bool := decide (N[i]? = some x) && match sc.names.lookup x with
  | some .local => true
  | some .cell => fb x
  | _ => false
def mTgs (N : List Str) (sc : Scope) (fb : Str → Bool) : List Nat → List Expr → Bool
  | [], [] => true
  | i :: is, .Name x _ :: es => wrSlot N sc fb i x && mTgs N sc fb is es
  | _, _ => false
def mTg (N : List Str) (sc : Scope) (fb : Str → Bool) (tup : Bool) (tg : List Nat) (e : Expr) : Bool :=
  match tup, tg, e with
  | false, [i], .Name x _ => wrSlot N sc fb i x
  | true, is, .Tuple es _ _ => mTgs N sc fb is es
  | _, _, _ => false
def Blt.nm : Blt → String
  | .len => "len"
  | .abs => "abs"
  | .int => "int"
  | .sum => "sum"
  | .all => "all"
  | .any => "any"
  | .max1 => "max"
  | .min1 => "min"
  | .max2 => "max"
  | .min2 => "min"
  | .tuple => "tuple"
  | .list => "list"
  | .sorted => "sorted"
def Ty.nm : Ty → String
  | .int => "int"
  | .bool => "bool"
  | .str => "str"
  | .tuple => "tuple"
  | .list => "list"
def Mth.nm : Mth → String
  | .append => "append"
  | .extend => "extend"
  | .pop1 => "pop"
  | .remove => "remove"
def blkFb (scope : Scope) : Str → Bool := fun x => scope.names.lookup x == some .cell
def relSc (scope sc : Scope) : Scope :=
  { scope with names := scope.names.map fun (n, k) => if (k == .free && sc.kind == .function && sc.names.lookup n == some .cell) then (n, .cell) else (n, k) }
def ownP (N : List Str) (own : List Nat) : List (Str × Nat) := own.map fun i => (N.getD i dbgN, i)
def plainPy : Expr → Bool
  | .UnaryOp _ _ _ => false
  | .BoolOp _ _ _ => false
  | .IfExp _ _ _ _ => false
  | .Compare _ _ _ _ => false
  | _ => true
def notSup : Expr → Bool
  | .Name _ _ => true
  | .Subscript _ _ _ => true
  | _ => false
/-- {x: (z, ())} -/
def dlC : E → E → Option (Nat × Int)
  | .var i, .tup (.cons (.int y) (.cons (.tup .nil) .nil)) => some (i, y)
  | _, _ => none
def dlP : List (Option Expr) → List Expr → Option (Str × Int)
  | [some (.Name x _)], [.Tuple [.Constant (.int z) _ _, .Tuple [] _ _] _ _] => some (x, z)
  | _, _ => none
theorem dlC_eq {a b : E} {i : Nat} {y : Int} (h : dlC a b = some (i, y)) : a = .var i ∧ b = .tup (.cons (.int y) (.cons (.tup .nil) .nil)) := by
  unfold dlC at h
  split at h
  · cases h; exact ⟨rfl, rfl⟩
  · cases h
theorem dlP_eq {ks : List (Option Expr)} {vs : List Expr} {x : Str} {z : Int} (h : dlP ks vs = some (x, z)) : ∃ p1 c1 p2 c2 p3 c3 p4, ks = [some (.Name x p1)] ∧ vs = [.Tuple [.Constant (.int z) c1 p2, .Tuple [] c2 p3] c3 p4] := by
  unfold dlP at h
  split at h
  · cases h; exact ⟨_, _, _, _, _, _, _, rfl, rfl⟩
  · cases h
mutual
def mE (N : List Str) (ren : String → String) : E → Scope → Expr → Bool
  | .var i, sc, .Name x _ => rdSlot N sc i x
  | .non, _, .Constant .none _ _ => true
  | .bl b, _, .Constant (.bool c) _ _ => b == c
  | .int i, _, .Constant (.int j) _ _ => i == j
  | .str s, _, .Constant (.str x) _ _ => isN x s
  | .glo s, sc, .Name x _ => isN x s && glb sc x && okName x
  | .bin o a b, sc, .BinOp l p r _ => decide (p = o.py) && mE N ren a sc l && mE N ren b sc r
  | .neg a, sc, .UnaryOp .USub l _ => mE N ren a sc l
  | .cmp o a b, sc, .Compare l [p] [r] _ => decide (p = o.py) && mE N ren a sc l && mE N ren b sc r
  | .chn o p a b d, sc, .Compare l [o', p'] [m, r] _ => decide (o' = o.py) && decide (p' = p.py) && mE N ren a sc l && mE N ren b sc m && mE N ren d sc r
  | .and a b, sc, .BoolOp .And (x :: y :: rest) pos => mE N ren a sc x && (match rest with
    | [] => mE N ren b sc y
    | z :: rest => mE N ren b sc (.BoolOp .And (y :: z :: rest) pos))
  | .or a b, sc, .BoolOp .Or (x :: y :: rest) pos => mE N ren a sc x && (match rest with
    | [] => mE N ren b sc y
    | z :: rest => mE N ren b sc (.BoolOp .Or (y :: z :: rest) pos))
  | .not a, sc, .UnaryOp .Not l _ => mE N ren a sc l
  | .ife t a b, sc, .IfExp c l r _ => mT N ren t sc c && mE N ren a sc l && mE N ren b sc r
  | .tup es, sc, .Tuple xs _ _ => mEs N ren es sc xs
  | .lst es, sc, .List xs _ => mEs N ren es sc xs
  | .dnew _, _, .Dict [] [] _ => true
  | .dlit a b, sc, .Dict ks vs _ => (match dlC a b, dlP ks vs with
    | some (i, y), some (x, z) => rdSlot N sc i x && decide (y = z)
    | _, _ => false)
  | .idx a b, sc, .Subscript l r _ => mE N ren a sc l && mE N ren b sc r
  | .idx2 i a j, sc, .Subscript (.Subscript (.Name x _) l _) (.Name y _) _ => rdSlot N sc i x && mE N ren a sc l && rdSlot N sc j y
  | .slc a lo hi, sc, .Subscript l (.Slice x y none _) _ => mE N ren a sc l && mO N ren lo sc x && mO N ren hi sc y
  | .dget a b, sc, .Subscript l r _ => mE N ren a sc l && mE N ren b sc r
  | .call f es, sc, .Call (.Name x _) (y :: ys) [] _ => isN x (ren f) && glb sc x && okName x && mEs N ren es sc (y :: ys)
  | .blt f es, sc, .Call (.Name x _) (y :: ys) [] _ => isN x f.nm && glb sc x && mEs N ren es sc (y :: ys)
  | .lrg a, sc, .Call (.Name x _) [.Call (.Name z _) [l] [] _] [] _ => isN x "list" && glb sc x && isN z "range" && glb sc z && mE N ren a sc l
  | .lrg2 a b, sc, .Call (.Name x _) [.Call (.Name z _) [l, r] [] _] [] _ => isN x "list" && glb sc x && isN z "range" && glb sc z && mE N ren a sc l && mE N ren b sc r
  | .trg a, sc, .Call (.Name x _) [.Call (.Name z _) [l] [] _] [] _ => isN x "tuple" && glb sc x && isN z "range" && glb sc z && mE N ren a sc l
  | .rev a, sc, .Subscript l (.Slice none none (some (.UnaryOp .USub (.Constant (.int z) _ _) _)) _) _ => decide (z = 1) && mE N ren a sc l
  | .isi a t, sc, .Call (.Name x _) [l, .Name y _] [] _ => isN x "isinstance" && glb sc x && isN y t.nm && glb sc y && mE N ren a sc l
  | .mth1 m i e, sc, .Call (.Attribute (.Name x _) n apos) [y] [] cpos => rdSlot N sc i x && isN n m.nm && (apos.endLine == cpos.line) && mE N ren e sc y
  | .pop0 i, sc, .Call (.Attribute (.Name x _) n apos) [] [] cpos => rdSlot N sc i x && isN n "pop" && (apos.endLine == cpos.line)
  | .ins i a b, sc, .Call (.Attribute (.Name x _) n apos) [y, z] [] cpos => rdSlot N sc i x && isN n "insert" && (apos.endLine == cpos.line) && mE N ren a sc y && mE N ren b sc z
  | .ixof a b, sc, .Call (.Attribute o n apos) [y] [] cpos => isN n "index" && (apos.endLine == cpos.line) && notSup o && mE N ren a sc o && mE N ren b sc y
  | .dg1 a b, sc, .Call (.Attribute o n apos) [y] [] cpos => isN n "get" && (apos.endLine == cpos.line) && notSup o && mE N ren a sc o && mE N ren b sc y
  | .dg2 a b d, sc, .Call (.Attribute o n apos) [y, z] [] cpos => isN n "get" && (apos.endLine == cpos.line) && notSup o && mE N ren a sc o && mE N ren b sc y && mE N ren d sc z
  | .items i, sc, .Call (.Name x _) [.Call (.Attribute (.Name z _) n apos) [] [] cpos] [] _ => isN x "list" && glb sc x && rdSlot N sc i z && isN n "items" && (apos.endLine == cpos.line)
  | .strI a, sc, .Call (.Name x _) [l] [] _ => isN x "str" && glb sc x && mE N ren a sc l
  | .lc own tg tup it c e, sc, .ListComp elt [⟨t, iter, ifs, z⟩] scope _ => decide (z = 0) && blkC N sc scope (ownP N own) && mTg N (relSc scope sc) (blkFb scope) tup tg t && mIt N ren it sc t iter && mC N ren c (relSc scope sc) ifs && mE N ren e (relSc scope sc) elt
      && tg.all fun i => decide (i ∈ own)
  | .lco own tg tup i c e, sc, .ListComp elt [⟨t, .Name x _, ifs, z⟩] scope _ => decide (z = 0) && blkC N sc scope (ownP N own) && mTg N (relSc scope sc) (blkFb scope) tup tg t && rdSlot N sc i x && mC N ren c (relSc scope sc) ifs && mE N ren e (relSc scope sc) elt
      && tg.all fun i => decide (i ∈ own)
  | .lc2 own tg tup it c e, sc, .ListComp elt [⟨t, iter, ifs, z⟩] scope _ => decide (z = 0) && blkC N sc scope (ownP N own) && mTg N (relSc scope sc) (blkFb scope) tup tg t && mIt N ren it sc t iter && (match c, ifs with
      | .no, [] => true
      | _, _ => false) && mE N ren e (relSc scope sc) elt && tg.all fun i => decide (i ∈ own)
  | .dc _ own tg tup it c k v, sc, .DictComp kx vx [⟨t, iter, ifs, z⟩] scope _ => decide (z = 0) && blkC N sc scope (ownP N own) && mTg N (relSc scope sc) (blkFb scope) tup tg t && mIt N ren it sc t iter && mC N ren c (relSc scope sc) ifs
      && (mE N ren k (relSc scope sc) kx && mE N ren v (relSc scope sc) vx) && tg.all fun i => decide (i ∈ own)
  | .dck _ own tg tup i c k v, sc, .DictComp kx vx [⟨t, .Name x _, ifs, z⟩] scope _ => decide (z = 0) && blkC N sc scope (ownP N own) && mTg N (relSc scope sc) (blkFb scope) tup tg t && rdSlot N sc i x && mC N ren c (relSc scope sc) ifs
      && (mE N ren k (relSc scope sc) kx && mE N ren v (relSc scope sc) vx) && tg.all fun i => decide (i ∈ own)
  | _, _, _ => false
def mT (N : List Str) (ren : String → String) : T → Scope → Expr → Bool
  | .val e, sc, py => (match e with
    | .cmp _ _ _ => true
    | .chn _ _ _ _ _ => true
    | _ => plainPy py) && mE N ren e sc py
  | .and a b, sc, .BoolOp .And (x :: y :: rest) pos => mT N ren a sc x && (match rest with
    | [] => mT N ren b sc y
    | z :: rest => mT N ren b sc (.BoolOp .And (y :: z :: rest) pos))
  | .or a b, sc, .BoolOp .Or (x :: y :: rest) pos => mT N ren a sc x && (match rest with
    | [] => mT N ren b sc y
    | z :: rest => mT N ren b sc (.BoolOp .Or (y :: z :: rest) pos))
  | .not a, sc, .UnaryOp .Not l _ => mT N ren a sc l
  | _, _, _ => false
def mEs (N : List Str) (ren : String → String) : Es → Scope → List Expr → Bool
  | .nil, _, [] => true
  | .cons e es, sc, x :: xs => mE N ren e sc x && mEs N ren es sc xs
  | _, _, _ => false
def mO (N : List Str) (ren : String → String) : O → Scope → Option Expr → Bool
  | .no, _, none => true
  | .so e, sc, some x => mE N ren e sc x
  | _, _, _ => false
def mC (N : List Str) (ren : String → String) : C → Scope → List Expr → Bool
  | .no, _, [] => true
  | .so t, sc, [x] => mT N ren t sc x
  | _, _, _ => false
/-- the target decides which walks may give pairs -/
def mIt (N : List Str) (ren : String → String) : It → Scope → Expr → Expr → Bool
  | .seq e, sc, _, x => mE N ren e sc x
  | .rng a, sc, _, .Call (.Name x _) [l] [] _ => isN x "range" && glb sc x && mE N ren a sc l
  | .rng2 a b, sc, _, .Call (.Name x _) [l, r] [] _ => isN x "range" && glb sc x && mE N ren a sc l && mE N ren b sc r
  | .enum e, sc, .Tuple _ _ _, .Call (.Name x _) [l] [] _ => isN x "enumerate" && glb sc x && mE N ren e sc l
  | .zip a b, sc, .Tuple _ _ _, .Call (.Name x _) [l, r] [] _ => isN x "zip" && glb sc x && mE N ren a sc l && mE N ren b sc r
  | _, _, _, _ => false
end
end Bide

set_option autoImplicit false
set_option Elab.async false
set_option maxRecDepth 100000
set_option linter.all false
/-! Helpers for the soundness. -/
namespace Bide
open PySem L2
section
variable {K : PySem.W.Frag} {c : En} {σ : L2.St} {H Z H' Z' : Hp} {ev ev' : Ev} {A A' : Nat → List Addr} {x : V} {r : RV} {d : D}
theorem rd_stl : rd ev (stl r) = rd ev r := by cases r <;> rfl
theorem esc_stl : esc ev (stl r) = esc ev r := by cases r <;> rfl
theorem stl_stl : stl (stl r) = stl r := by cases r <;> rfl
theorem RS.stl (R : RS K c σ H Z ev A) (q : RR K c σ H Z ev A x r) : ∃ Z', Same Z Z' ∧ RS K c σ H Z' ev A ∧ RR K c σ H Z' ev A x (Bide.stl r) := by
  cases r with
  | v d => exact ⟨Z, Same.refl _, R, q⟩
  | s i => exact ⟨Z, Same.refl _, R, q⟩
  | f o => exact R.settle q
theorem RR.later (q : RR K c σ H Z ev A x (Bide.stl r)) (s : Same Z Z') : RR K c σ H' Z' ev' A' x (Bide.stl r) := by
  cases r with
  | v d => exact Rp.mono s q
  | s i => exact q
  | f o => exact Rp.mono s q
theorem RS.rdv (R : RS K c σ H Z ev A) (q : RR K c σ H Z ev A x (Bide.stl r)) (e : rd ev r = some d) : RdV K Z H x d := by
  cases r with
  | v d' => cases e; exact .inl q
  | f o => cases e; exact .inl q
  | s i =>
    have q' : σ[i]? = some (some x) := q
    simp only [rd] at e
    split at e <;> cases e
    · rename_i h
      obtain ⟨_, v, e1, e2⟩ := R.sl i _ h
      rw [q'] at e1; cases e1; exact .inl e2
    · rename_i h
      obtain ⟨a, e1, _, xs, h1, h2, h3⟩ := R.sl i _ h
      rw [q'] at e1; cases e1
      exact .inr ⟨a, rfl, .inl ⟨_, xs, rfl, h1, h2, h3⟩⟩
    · rename_i t kvs h
      obtain ⟨a, e1, e2⟩ := R.sl i _ h
      rw [q'] at e1; cases e1
      cases t with
      | false => obtain ⟨_, ks, h1, h2, h3⟩ := e2; exact .inr ⟨a, rfl, .inr (.inl ⟨_, ks, rfl, h1, h2, h3⟩)⟩
      | true => obtain ⟨_, ks, h1, h2, h3⟩ := e2; exact .inr ⟨a, rfl, .inr (.inr ⟨_, ks, rfl, h1, h2, h3⟩)⟩
    · rename_i h
      obtain ⟨a, e1, _, xs, h1, h2, h3⟩ := R.sl i _ h
      rw [q'] at e1; cases e1
      exact .inr ⟨a, rfl, .inl ⟨_, xs, rfl, h1, h2, h3⟩⟩
theorem RS.esc (R : RS K c σ H Z ev A) (q : RR K c σ H Z ev A x (Bide.stl r)) (e : Bide.esc ev r = some (d, ev')) : ∃ Z' A', Same Z Z' ∧ RS K c σ H Z' ev' A' ∧ Rp K Z' x d := by
  cases r with
  | v d' => cases e; exact ⟨Z, A, Same.refl _, R, q⟩
  | f o => cases e; exact ⟨Z, A, Same.refl _, R, q⟩
  | s i =>
    have q' : σ[i]? = some (some x) := q
    simp only [Bide.esc] at e
    split at e <;> cases e
    · rename_i h
      obtain ⟨_, v, e1, e2⟩ := R.sl i _ h
      rw [q'] at e1; cases e1
      exact ⟨Z, A, Same.refl _, R, e2⟩
    · rename_i o h
      obtain ⟨Z', y, e1, s, R', rp⟩ := R.share h
      rw [q'] at e1; cases e1
      exact ⟨Z', _, s, R', rp⟩
theorem RS.escs : ∀ {rs : List RV} {xs : List V} {ds : List D} {ev ev' : Ev} {Z : Hp} {A : Nat → List Addr}, RS K c σ H Z ev A → RRs K c σ H Z ev A xs rs → Bide.escs ev rs = some (ds, ev') →
    ∃ Z' A', Same Z Z' ∧ RS K c σ H Z' ev' A' ∧ Rps K Z' xs ds
  | [], [], _, _, _, Z, A, R, _, e => by cases e; exact ⟨Z, A, Same.refl _, R, .nil⟩
  | [], _ :: _, _, _, _, _, _, _, q, _ => q.elim
  | _ :: _, [], _, _, _, _, _, _, q, _ => q.elim
  | r :: rs, x :: xs, ds, ev, ev', Z, A, R, q, e => by
    simp only [Bide.escs] at e
    split at e
    · rename_i d ev1 h1
      split at e <;> cases e
      rename_i ds h2
      obtain ⟨Z1, A1, s1, R1, p1⟩ := R.esc q.1 h1
      have later : RRs K c σ H Z1 ev1 A1 xs rs := by
        have gen : ∀ (xs : List V) (rs : List RV), RRs K c σ H Z ev A xs rs → RRs K c σ H Z1 ev1 A1 xs rs := by
          intro xs
          induction xs with
          | nil => intro rs h; cases rs with
            | nil => trivial
            | cons _ _ => exact h.elim
          | cons y ys ih => intro rs h; cases rs with
            | nil => exact h.elim
            | cons r rs => exact ⟨h.1.later s1, ih rs h.2⟩
        exact gen xs rs q.2
      obtain ⟨Z2, A2, s2, R2, p2⟩ := RS.escs R1 later h2
      exact ⟨Z2, A2, s1.trans s2, R2, .cons (p1.mono s2) p2⟩
    · cases e
theorem RRs.later : ∀ {xs : List V} {rs : List RV}, RRs K c σ H Z ev A xs rs → Same Z Z' → RRs K c σ H' Z' ev' A' xs rs
  | [], [], _, _ => trivial
  | [], _ :: _, h, _ => h.elim
  | _ :: _, [], h, _ => h.elim
  | _ :: _, _ :: _, h, s => ⟨h.1.later s, RRs.later h.2 s⟩
theorem RS.rds (R : RS K c σ H Z ev A) : ∀ {xs : List V} {rs : List RV} {ds : List D}, RRs K c σ H Z ev A xs rs → Bide.rds ev rs = some ds → RdVs K Z H xs ds
  | [], [], _, _, e => by cases e; trivial
  | [], _ :: _, _, h, _ => h.elim
  | _ :: _, [], _, h, _ => h.elim
  | x :: xs, r :: rs, ds, h, e => by
    simp only [Bide.rds] at e
    split at e <;> cases e
    rename_i h1 h2
    exact ⟨R.rdv h.1 h1, RS.rds R h.2 h2⟩
/-- what an operation makes, in the body's state -/
theorem RS.give (R : RS K c σ H Z ev A) {Q : VK} {w : Wd} (hw : w.K = K) (hc : w.c = c) (h : Out w σ Z (.ok r ev) fun r ev' H' Z' A' => ∀ x, RR w.K w.c σ H' Z' ev' A' x r → Q x H') : Give K Z H r Q := by
  subst hw hc
  intro x Z' H' g n
  refine h H' Z' A g.zz (R.ext g.zz g.sub g.zf g.hh) x ?_
  cases r with
  | v d => exact n
  | s i => exact n.elim
  | f o =>
    obtain ⟨a, as, e, oc, nd, hb⟩ := n
    exact ⟨a, as, e, oc, nd, fun b hm => ⟨(hb b hm).1, R.dead (hb b hm).2, R.fFree (hb b hm).2, fun i hi => R.alive hi (hb b hm).2⟩⟩
end
section
variable {w : Wd} {σ : L2.St} {H Z : Hp} {ev : Ev} {A : Nat → List Addr}
theorem semE_mono {e : E} {Q Q' : VK} (h : semE w e σ H Q) (i : ∀ x H, Q x H → Q' x H) : semE w e σ H Q' := by
  obtain ⟨ev, Z, A, R, o⟩ := h
  exact ⟨ev, Z, A, R, o.imp fun r e1 H1 Z1 A1 _ _ q x rr => i x H1 (q x rr)⟩
theorem semEs_mono {e : Es} {Q Q' : List V → Hp → Prop} (h : semEs w e σ H Q) (i : ∀ x H, Q x H → Q' x H) : semEs w e σ H Q' := by
  obtain ⟨ev, Z, A, R, o⟩ := h
  exact ⟨ev, Z, A, R, o.imp fun r e1 H1 Z1 A1 _ _ q x rr => i x H1 (q x rr)⟩
theorem semT_mono {t : T} {Q Q' : Bool → Hp → Prop} (h : semT w t σ H Q) (i : ∀ x H, Q x H → Q' x H) : semT w t σ H Q' := by
  obtain ⟨ev, Z, A, R, o⟩ := h
  exact ⟨ev, Z, A, R, o.imp fun r e1 H1 Z1 A1 _ _ q => i r H1 q⟩
theorem semO_mono {t : O} {Q Q' : Option Int → Hp → Prop} (h : semO w t σ H Q) (i : ∀ x H, Q x H → Q' x H) : semO w t σ H Q' := by
  obtain ⟨ev, Z, A, R, o⟩ := h
  exact ⟨ev, Z, A, R, o.imp fun r e1 H1 Z1 A1 _ _ q => i r H1 q⟩
/-- a part is evaluated, its value settled; the rest is in its hands -/
theorem sub1 {α : Type} {e : E} {f : RV → Ev → R α} {k : α → Ev → Hp → Hp → (Nat → List Addr) → Prop} (R : RS w.K w.c σ H Z ev A) (h : Out w σ Z ((evE w.cf e ev).bind f) k) :
    semE w e σ H fun x H1 => ∃ r e1 Z1 A1, Same Z Z1 ∧ RS w.K w.c σ H1 Z1 e1 A1 ∧ RR w.K w.c σ H1 Z1 e1 A1 x (stl r) ∧ Out w σ Z1 (f r e1) k := by
  refine ⟨ev, Z, A, R, h.bnd.imp fun r e1 H1 Z1 A1 s1 R1 q x rr => ?_⟩
  obtain ⟨Z2, s2, R2, q2⟩ := R1.stl rr
  exact ⟨r, e1, Z2, A1, s1.trans s2, R2, q2, Out.same q s2⟩
theorem subT {α : Type} {t : T} {f : Bool → Ev → R α} {k : α → Ev → Hp → Hp → (Nat → List Addr) → Prop} (R : RS w.K w.c σ H Z ev A) (h : Out w σ Z ((evT w.cf t ev).bind f) k) :
    semT w t σ H fun b H1 => ∃ e1 Z1 A1, Same Z Z1 ∧ RS w.K w.c σ H1 Z1 e1 A1 ∧ Out w σ Z1 (f b e1) k :=
  ⟨ev, Z, A, R, h.bnd.imp fun r e1 H1 Z1 A1 s1 R1 q => ⟨e1, Z1, A1, s1, R1, q⟩⟩
theorem subO {α : Type} {t : O} {f : Option Int → Ev → R α} {k : α → Ev → Hp → Hp → (Nat → List Addr) → Prop} (R : RS w.K w.c σ H Z ev A) (h : Out w σ Z ((evO w.cf t ev).bind f) k) :
    semO w t σ H fun b H1 => ∃ e1 Z1 A1, Same Z Z1 ∧ RS w.K w.c σ H1 Z1 e1 A1 ∧ Out w σ Z1 (f b e1) k :=
  ⟨ev, Z, A, R, h.bnd.imp fun r e1 H1 Z1 A1 s1 R1 q => ⟨e1, Z1, A1, s1, R1, q⟩⟩
theorem subEs {α : Type} {t : Es} {f : List RV → Ev → R α} {k : α → Ev → Hp → Hp → (Nat → List Addr) → Prop} (R : RS w.K w.c σ H Z ev A) (h : Out w σ Z ((evEs w.cf t ev).bind f) k) :
    semEs w t σ H fun xs H1 => ∃ rs e1 Z1 A1, Same Z Z1 ∧ RS w.K w.c σ H1 Z1 e1 A1 ∧ RRs w.K w.c σ H1 Z1 e1 A1 xs rs ∧ Out w σ Z1 (f rs e1) k :=
  ⟨ev, Z, A, R, h.bnd.imp fun r e1 H1 Z1 A1 s1 R1 q xs rr => ⟨r, e1, Z1, A1, s1, R1, rr, q⟩⟩
/-- the end: a shared value -/
theorem fin_v {Q : VK} {x : V} {d : D} (R : RS w.K w.c σ H Z ev A) (h : Out w σ Z (.ok (.v d) ev) fun r ev' H' Z' A' => ∀ x, RR w.K w.c σ H' Z' ev' A' x r → Q x H') (r : Rp w.K Z x d) : Q x H :=
  h H Z A (Same.refl _) R x r
end
/-! ### the texts' side -/
section
variable {N : List Str} {ren : String → String} {sc : Scope} {py : Expr}
def noStar : Expr → Bool
  | .Starred _ _ => false
  | .Slice _ _ _ _ => false
  | .Set _ _ _ => false
  | _ => true
theorem mE_noStar {e : E} (h : mE N ren e sc py = true) : noStar py = true := by
  cases py <;> first | rfl | (exfalso; revert h; cases e <;> simp [mE])
theorem star_of {env : Env} {es : List Expr} (h : noStar py = true) : starEach (py :: es) env = (false, eval py env) :: starEach es env := by
  cases py <;> first | rfl | (simp [noStar] at h)
theorem mark_of {op : CmpOp} (h : noStar py = true) : behindInMarks op py = false := by
  cases py <;> first | rfl | (simp [noStar] at h)
theorem sub_of (h : noStar py = true) (o i : Value) : subscripted py false o i = operate [o, i] (getItem o i) := by
  cases py <;> first | rfl | (simp [noStar] at h)
theorem mEs_star : ∀ {es : Es} {ys : List Expr} {env : Env} {pos : Pos}, mEs N ren es sc ys = true → (backTo pos (starEach ys env)).any (·.1) = false
  | .nil, [], _, _, _ => rfl
  | .nil, _ :: _, _, _, h => by simp [mEs] at h
  | .cons _ _, [], _, _, h => by simp [mEs] at h
  | .cons e es, y :: ys, env, pos, h => by
    simp only [mEs, Bool.and_eq_true] at h
    rw [star_of (mE_noStar h.1)]
    have ih := mEs_star (env := env) (pos := pos) h.2
    unfold backTo at ih ⊢
    rw [List.map_cons, List.any_cons, ih]
    rfl
theorem isN_eq {x : Str} {s : String} (h : isN x s = true) : x = sN s := of_decide_eq_true h
theorem glb_gl {X : Cx} {x : Str} (h : glb X.env.scope x = true) : Gl X x := by
  unfold glb at h
  split at h
  · rename_i e; exact e
  · cases h
theorem vis_vis {x : Str} (h : vis sc x = true) : Vis sc x := by
  unfold vis at h
  split at h
  · rename_i e; exact .inl e
  · rename_i e; exact .inr (.inl e)
  · rename_i e; exact .inr (.inr e)
  · cases h
theorem okN1 {x : Str} (h : okName x = true) : (x == ("__debug__" : Str)) = false := by
  unfold okName at h
  have := (Bool.and_eq_true_iff.mp h).1
  simpa [dbgN] using this
theorem okN2 {x : Str} (h : okName x = true) : (x == ("__classdict__" : Str)) = false := by
  unfold okName at h
  have := (Bool.and_eq_true_iff.mp h).2
  simpa [cldN] using this
end
end Bide

set_option autoImplicit false
set_option Elab.async false
set_option maxRecDepth 100000
set_option linter.all false
/-! Helpers for the soundness: calls, targets. -/
namespace Bide
open PySem L2
section
variable {K : PySem.W.Frag} {c : En} {σ : L2.St} {H Z H' Z' : Hp} {ev ev' : Ev} {A A' : Nat → List Addr}
def SV.lent : SV → Prop
  | .ow (.l _) => True
  | .io _ => True
  | _ => False
/-- the lent slots and their addresses -/
def Lt (A : Nat → List Addr) (ev : Ev) : List (Nat × Addr) → List Nat → Prop
  | [], [] => True
  | (_, a) :: P, i :: ls => A i = [a] ∧ (∃ sv, ev[i]? = some sv ∧ sv.lent) ∧ i ∉ ls ∧ Lt A ev P ls
  | _, _ => False
theorem Lt.mem : ∀ {P : List (Nat × Addr)} {ls : List Nat}, Lt A ev P ls → ∀ {j : Nat} {a : Addr}, (j, a) ∈ P → ∃ i ∈ ls, A i = [a]
  | [], [], _, _, _, h => by cases h
  | [], _ :: _, q, _, _, _ => q.elim
  | _ :: _, [], q, _, _, _ => q.elim
  | (_, b) :: P, i :: ls, q, j, a, h => by
    rcases List.mem_cons.mp h with e | h
    · cases e; exact ⟨i, by simp, q.1⟩
    · obtain ⟨i', h1, h2⟩ := Lt.mem q.2.2.2 h
      exact ⟨i', List.mem_cons_of_mem _ h1, h2⟩
theorem RS.lend : ∀ {bs : List Bool} {rs : List RV} {xs : List V} {ds : List D} {ls : List Nat} {ev ev' : Ev} {Z : Hp} {A : Nat → List Addr} (n : Nat), RS K c σ H Z ev A → RRs K c σ H Z ev A xs rs →
    Bide.lend ev bs rs = some (ds, ls, ev') → ∃ Z' A' P, Same Z Z' ∧ RS K c σ H Z' ev' A' ∧ Args K Z' H n bs xs ds P ∧ Lt A' ev' P ls
  | [], [], [], _, _, _, _, Z, A, n, R, _, e => by
    simp only [Bide.lend] at e
    cases e
    exact ⟨Z, A, [], Same.refl _, R, .nil n, trivial⟩
  | [], [], _ :: _, _, _, _, _, _, _, _, _, q, _ => q.elim
  | [], _ :: _, _, _, _, _, _, _, _, _, _, _, e => by simp [Bide.lend] at e
  | false :: _, [], _, _, _, _, _, _, _, _, _, _, e => by simp [Bide.lend] at e
  | true :: _, [], _, _, _, _, _, _, _, _, _, _, e => by simp [Bide.lend] at e
  | _ :: _, _ :: _, [], _, _, _, _, _, _, _, _, q, _ => q.elim
  | false :: bs, r :: rs, x :: xs, ds, ls, ev, ev', Z, A, n, R, q, e => by
    simp only [Bide.lend] at e
    split at e
    · rename_i d ev1 h1
      split at e <;> cases e
      rename_i h2
      obtain ⟨Z1, A1, s1, R1, p1⟩ := R.esc q.1 h1
      obtain ⟨Z2, A2, P, s2, R2, a2, l2⟩ := RS.lend (n + 1) R1 (q.2.later s1) h2
      exact ⟨Z2, A2, P, s1.trans s2, R2, .sh (p1.mono s2) a2, l2⟩
    · cases e
  | true :: bs, .v _ :: rs, x :: xs, ds, ls, ev, ev', Z, A, n, R, q, e => by simp [Bide.lend] at e
  | true :: bs, .f _ :: rs, x :: xs, ds, ls, ev, ev', Z, A, n, R, q, e => by simp [Bide.lend] at e
  | true :: bs, .s i :: rs, x :: xs, ds, ls, ev, ev', Z, A, n, R, q, e => by
    simp only [Bide.lend] at e
    split at e
    · rename_i ds' ls' ev2 h2
      obtain ⟨Z2, A2, P, s2, R2, a2, l2⟩ := RS.lend (n + 1) R q.2 h2
      have q1 : σ[i]? = some (some x) := q.1
      have key : ∀ (ys : List D) (sv : SV), ev2[i]? = some sv → sv.lent → (∃ a, σ[i]? = some (some (.ref a)) ∧ OC K Z2 H (A2 i) a (.l ys)) → i ∉ ls' →
          ∃ Z' A' P, Same Z Z' ∧ RS K c σ H Z' ev2 A' ∧ Args K Z' H n (true :: bs) (x :: xs) (.list ys :: ds') P ∧ Lt A' ev2 P (i :: ls') := by
        rintro ys sv hs hl ⟨a, e1, e2, zs, g1, g2, g3⟩ hn
        rw [q1] at e1
        cases e1
        refine ⟨Z2, A2, (n, a) :: P, s2, R2, .io g1 g2 g3 (R2.zo i a (by rw [e2]; simp)) (fun j hj => ?_) a2, e2, ⟨sv, hs, hl⟩, hn, l2⟩
        obtain ⟨i', hi', e'⟩ := l2.mem hj
        have : i = i' := R2.dis i i' a (by rw [e2]; simp) (by rw [e']; simp)
        subst this
        exact hn hi'
      split at e
      · rename_i ys hs
        split at e <;> cases e
        rename_i hn
        exact key ys _ hs trivial (R2.sl i _ hs) hn
      · rename_i ys hs
        split at e <;> cases e
        rename_i hn
        exact key ys _ hs trivial (R2.sl i _ hs) hn
      · cases e
    · cases e
theorem Args.io_only {n : Nat} : ∀ {bs : List Bool} {xs : List V} {ds : List D} {P : List (Nat × Addr)}, Args K Z H n bs xs ds P → ∀ j a, (j, a) ∈ P → ∃ ys, H a = some (.lst ys)
  | _, _, _, _, .nil _, _, _, h => by cases h
  | _, _, _, _, .sh _ r, j, a, h => Args.io_only r j a h
  | _, _, _, _, .io g _ _ _ _ r, j, a, h => by
    rcases List.mem_cons.mp h with e | h
    · cases e; exact ⟨_, g⟩
    · exact Args.io_only r j a h
def SV.put : SV → List D → SV
  | .io _, xs => .io xs
  | _, xs => .ow (.l xs)
/-- what comes back -/
theorem giveBack_ok : ∀ {ls : List Nat} {outs : List (List D)} {ev ev' : Ev}, ls.Nodup → giveBack ev ls outs = some ev' → ev'.length = ev.length ∧ (∀ i, i ∉ ls → ev'[i]? = ev[i]?) ∧
    ls.length = outs.length ∧ ∀ (j i : Nat) ys, ls[j]? = some i → outs[j]? = some ys → ∃ sv, ev[i]? = some sv ∧ ev'[i]? = some (sv.put ys) ∧ (sv.isIo ∨ ∃ o, sv = .ow o)
  | [], [], ev, ev', _, e => by
    simp only [giveBack] at e
    cases e
    exact ⟨rfl, fun _ _ => rfl, rfl, fun j i ys h => by simp at h⟩
  | [], _ :: _, _, _, _, e => by simp [giveBack] at e
  | _ :: _, [], _, _, _, e => by simp [giveBack] at e
  | i :: ls, xs :: outs, ev, ev', nd, e => by
    have nd' := List.nodup_cons.mp nd
    simp only [giveBack] at e
    have key : ∀ (sv : SV), ev[i]? = some sv → (sv.isIo ∨ ∃ o, sv = .ow o) → giveBack (ev.set i (sv.put xs)) ls outs = some ev' → ev'.length = ev.length ∧ (∀ j, j ∉ i :: ls → ev'[j]? = ev[j]?) ∧
        (i :: ls).length = (xs :: outs).length ∧ ∀ (j i' : Nat) ys, (i :: ls)[j]? = some i' → (xs :: outs)[j]? = some ys → ∃ sv, ev[i']? = some sv ∧ ev'[i']? = some (sv.put ys) ∧ (sv.isIo ∨ ∃ o, sv = .ow o) := by
      intro sv hs hv hg
      obtain ⟨h1, h2, h3, h4⟩ := giveBack_ok nd'.2 hg
      have hi : i < ev.length := (List.getElem?_eq_some_iff.mp hs).1
      refine ⟨by rw [h1]; simp, fun j hj => ?_, by simp [h3], fun j i' ys e1 e2 => ?_⟩
      · have hj' : j ≠ i ∧ j ∉ ls := by simpa using hj
        rw [h2 j hj'.2, List.getElem?_set_ne (Ne.symm hj'.1)]
      · cases j with
        | zero =>
          simp at e1 e2
          subst e1 e2
          exact ⟨sv, hs, by rw [h2 _ nd'.1, List.getElem?_set_self hi], hv⟩
        | succ j =>
          simp at e1 e2
          obtain ⟨sv', g1, g2, g3⟩ := h4 j i' ys e1 e2
          have hne : i ≠ i' := fun z => nd'.1 (z ▸ List.mem_of_getElem? e1)
          rw [List.getElem?_set_ne hne] at g1
          exact ⟨sv', g1, g2, g3⟩
    split at e
    · rename_i o hs
      exact key _ hs (.inr ⟨o, rfl⟩) e
    · rename_i o hs
      exact key _ hs (.inl trivial) e
    · cases e
theorem Lt.nodup : ∀ {P : List (Nat × Addr)} {ls : List Nat}, Lt A ev P ls → ls.Nodup
  | [], [], _ => .nil
  | [], _ :: _, q => q.elim
  | _ :: _, [], q => q.elim
  | _ :: _, i :: ls, q => List.nodup_cons.mpr ⟨q.2.2.1, Lt.nodup q.2.2.2⟩
theorem Lt.at : ∀ {P : List (Nat × Addr)} {ls : List Nat} {outs : List (List D)}, Lt A ev P ls → Outs K Z' H' P outs → ∀ (j i : Nat), ls[j]? = some i → ∃ a ys xs, outs[j]? = some ys ∧ A i = [a] ∧ H' a = some (.lst xs) ∧ xs.length ≤ sizeLine ∧ Rps K Z' xs ys
  | [], [], _, _, _, _, _, h => by simp at h
  | [], _ :: _, _, q, _, _, _, _ => q.elim
  | _ :: _, [], _, q, _, _, _, _ => q.elim
  | (_, a) :: P, i :: ls, _, q, .cons g1 g2 g3 g4 r, j, i', h => by
    cases j with
    | zero =>
      simp at h
      subst h
      exact ⟨a, _, _, rfl, q.1, g1, g2, g3⟩
    | succ j =>
      simp at h
      exact Lt.at q.2.2.2 r j i' h
/-- behind a call -/
theorem RS.called (R : RS K c σ H Z ev A) {P : List (Nat × Addr)} {ls : List Nat} {outs : List (List D)} (l : Lt A ev P ls) (p : Post Z H Z' H' P) (o : Outs K Z' H' P outs) (g : giveBack ev ls outs = some ev') : RS K c σ H' Z' ev' A := by
  obtain ⟨g1, g2, g3, g4⟩ := giveBack_ok l.nodup g
  have nP : ∀ (i : Nat) (a : Addr), a ∈ A i → i ∉ ls → ∀ j, (j, a) ∉ P := fun i a ha hi j hj => by
    obtain ⟨i', h1, h2⟩ := l.mem hj
    have : i = i' := R.dis i i' a ha (by rw [h2]; simp)
    subst this
    exact hi h1
  have dead : ∀ q, H q = none → c.H q = none := fun q e => R.dead e
  have mem : ∀ (i : Nat), i ∈ ls → ∃ j : Nat, ls[j]? = some i := fun i hi => List.mem_iff_getElem?.mp hi
  exact {
    len := by rw [g1]; exact R.len
    sub := p.sub
    z0 := R.z0.trans p.zz
    zf := fun q u e => by
      rcases p.zf q u e with z | z | z
      · exact R.zf q u z
      · exact .inr (.inl (dead q z))
      · exact .inr (.inr z)
    fr := fun q u e n => by
      refine p.fr q u (R.fr q u e n) fun j hj => ?_
      obtain ⟨i, _, h2⟩ := l.mem hj
      rcases R.ao i q (by rw [h2]; simp) with ⟨i', z⟩ | z
      · exact n i' z
      · rw [z] at e; cases e
    sl := fun i sv e => by
      by_cases hi : i ∈ ls
      · obtain ⟨j, hj⟩ := mem i hi
        obtain ⟨a, ys, xs, q1, q2, q3, q4, q5⟩ := l.at o j i hj
        obtain ⟨sv', w1, w2, w3⟩ := g4 j i ys hj q1
        rw [w2] at e
        cases e
        have old := R.sl i sv' w1
        rcases w3 with w3 | ⟨ov, rfl⟩
        · cases sv' with
          | io ds =>
            obtain ⟨b, b1, b2⟩ := old
            have hb := b2.1
            rw [q2] at hb
            cases hb
            exact ⟨a, b1, q2, xs, q3, q4, q5⟩
          | _ => exact w3.elim
        · obtain ⟨b, b1, b2⟩ := old
          have hb : b = a := by
            have := b2.mem
            rw [q2] at this
            simpa using this
          subst hb
          exact ⟨b, b1, q2, xs, q3, q4, q5⟩
      · rw [g2 i hi] at e
        exact (R.sl i sv e).mono p.zz fun b hb u q => p.fr b u q (nP i b hb hi)
    out := fun i hi => R.out i (by rw [← g1]; exact hi)
    zo := fun i a ha => by
      cases q : Z' a with
      | none => rfl
      | some u =>
        rcases p.zf a u q with z | z | z
        · rw [R.zo i a ha] at z; cases z
        · exact absurd z (R.alive ha)
        · have e := p.sub a u q
          obtain ⟨ys, rfl⟩ := z
          by_cases hi : i ∈ ls
          · obtain ⟨j, hj⟩ := mem i hi
            obtain ⟨b, ys', xs, q1, q2, q3, q4, q5⟩ := l.at o j i hj
            rw [q2] at ha
            cases List.mem_singleton.mp ha
            rw [q3] at e; cases e
          · cases y : H a with
            | none => exact absurd y (R.alive ha)
            | some u' =>
              rw [p.fr a u' y (nP i a ha hi)] at e
              cases e
              exact absurd y (R.noTup ha _ ⟨ys, rfl⟩)
    ao := R.ao
    dis := R.dis
    nod := R.nod
    io := fun i a h => by
      obtain ⟨h1, ds, h2⟩ := R.io i a h
      refine ⟨h1, ?_⟩
      by_cases hi : i ∈ ls
      · obtain ⟨j, hj⟩ := mem i hi
        obtain ⟨_, ys, _, q1, _⟩ := l.at o j i hj
        obtain ⟨sv', w1, w2, w3⟩ := g4 j i ys hj q1
        rw [h2] at w1
        cases w1
        exact ⟨ys, w2⟩
      · exact ⟨ds, by rw [g2 i hi]; exact h2⟩
    oi := fun i ds h => by
      by_cases hi : i ∈ ls
      · obtain ⟨j, hj⟩ := mem i hi
        obtain ⟨_, ys, _, q1, _⟩ := l.at o j i hj
        obtain ⟨sv', w1, w2, w3⟩ := g4 j i ys hj q1
        rw [w2] at h
        cases sv' with
        | io d' => exact R.oi i d' w1
        | _ => simp [SV.put] at h
      · rw [g2 i hi] at h
        exact R.oi i ds h
    pf := fun q u e => by
      obtain ⟨h1, h2, h3⟩ := R.pf q u e
      refine ⟨p.fr q u h1 fun j hj => ?_, ?_, h3⟩
      · obtain ⟨i, _, z⟩ := l.mem hj
        exact h3 i (by rw [z]; simp)
      · cases z : Z' q with
        | none => rfl
        | some u' =>
          rcases p.zf q u' z with y | y | y
          · rw [h2] at y; cases y
          · rw [h1] at y; cases y
          · have e2 := p.fr q u h1 fun j hj => by
              obtain ⟨i, _, z⟩ := l.mem hj
              exact h3 i (by rw [z]; simp)
            rw [p.sub q u' z] at e2
            cases e2
            exact absurd y (R.ft q u e)
    ft := R.ft }
/-- a result of a call -/
theorem RS.newR (R : RS K c σ H Z ev A) {x : V} {r : RV} (n : New K H Z' H' x r) {ev'' : Ev} : RR K c σ H' Z' ev'' A x r := by
  cases r with
  | v d => exact n
  | s i => exact n.elim
  | f o =>
    obtain ⟨a, as, e, oc, nd, hb⟩ := n
    exact ⟨a, as, e, oc, nd, fun b hm => ⟨(hb b hm).1, R.dead (hb b hm).2, R.fFree (hb b hm).2, fun i hi => R.alive hi (hb b hm).2⟩⟩
end

/-! ### targets -/
def gNames : List Nat → TGs
  | [] => gNil
  | i :: is => gCons (gName i) (gNames is)
def gTg (K : PySem.W.Frag) (tup : Bool) (tg : List Nat) : TG := match tup, tg with
  | false, [i] => gName i
  | false, _ => fun _ _ _ _ => False
  | true, is => gTup K is.length (gNames is)
section
variable {X : Cx} {N : List Str} {fb : Str → Bool} {sc : Scope}
theorem wr_loc {i : Nat} {x : Str} (h : wrSlot N X.env.scope fb i x = true) (hf : ∀ x, fb x = true → X.fn x = true) : N[i]? = some x ∧ Loc X.env.scope x ∧ (X.fn x = true ∨ X.env.scope.names.lookup x = some .local) := by
  unfold wrSlot at h
  obtain ⟨h1, h2⟩ := Bool.and_eq_true_iff.mp h
  refine ⟨of_decide_eq_true h1, ?_⟩
  split at h2
  · rename_i e; exact ⟨.inl e, .inr e⟩
  · rename_i e; exact ⟨.inr e, .inl (hf x h2)⟩
  · cases h2
theorem sndTgs (hN : X.N = N) (hnd : X.N.Nodup) (hf : ∀ x, fb x = true → X.fn x = true) : ∀ {is : List Nat} {es : List Expr}, mTgs N X.env.scope fb is es = true →
    PGs X es (gNames is) ∧ (assignEach es X.env).length = is.length ∧ (assignEach es X.env).findIdx? (·.1) = none
  | [], [], _ => ⟨pgs_nil, rfl, rfl⟩
  | [], _ :: _, h => by simp [mTgs] at h
  | _ :: _, [], h => by simp [mTgs] at h
  | i :: is, e :: es, h => by
    cases e <;> first | (simp [mTgs] at h; done) | skip
    simp only [mTgs, Bool.and_eq_true] at h
    obtain ⟨h1, h2, h3⟩ := wr_loc h.1 hf
    obtain ⟨q1, q2, q3⟩ := sndTgs hN hnd hf h.2
    refine ⟨pgs_cons (pg_name hnd (by rw [hN]; exact h1) h2 h3) q1 rfl, by simp [assignEach,q2], ?_⟩
    simp [assignEach,List.findIdx?_cons,q3]
theorem sndTg (hN : X.N = N) (hnd : X.N.Nodup) (hc : X.calm = true) (hf : ∀ x, fb x = true → X.fn x = true) {tup : Bool} {tg : List Nat} {e : Expr} (h : mTg N X.env.scope fb tup tg e = true) : PG X e (gTg X.K tup tg) := by
  cases tup with
  | false =>
    match tg, e, h with
    | [i], .Name x p, h =>
      have h' : wrSlot N X.env.scope fb i x = true := h
      obtain ⟨h1, h2, h3⟩ := wr_loc h' hf
      exact pg_name hnd (by rw [hN]; exact h1) h2 h3
  | true =>
    cases e <;> first | (simp [mTg] at h; done) | skip
    have h' : mTgs N X.env.scope fb tg _ = true := h
    obtain ⟨q1, q2, q3⟩ := sndTgs hN hnd hf h'
    exact pg_tup hc q1 q2 q3
end
section
variable {K : PySem.W.Frag} {c : En} {σ : L2.St} {H Z : Hp} {ev ev' : Ev} {A : Nat → List Addr}
/-- these slots' values are set -/
def setsS : L2.St → List Nat → List V → L2.St
  | σ, i :: is, v :: vs => setsS (σ.set i (some v)) is vs
  | σ, _, _ => σ
theorem RS.setV (R : RS K c σ H Z ev A) {i : Nat} {x : V} {d : D} (r : Rp K Z x d) (e : Bide.setV ev i (.sh d) = some ev') : ∃ A', RS K c (σ.set i (some x)) H Z ev' A' := by
  unfold Bide.setV at e
  split at e
  · cases e
  · cases e
  · rename_i h1 h2
    cases e
    cases hs : ev[i]? with
    | none => exact absurd hs h2
    | some sv => exact ⟨_, R.setSh hs (fun z => by cases sv with
      | io ds => exact h1 ds hs
      | _ => exact z) r⟩
theorem RS.setVs : ∀ {is : List Nat} {xs : List V} {ds : List D} {σ : L2.St} {ev ev' : Ev} {A : Nat → List Addr}, RS K c σ H Z ev A → Rps K Z xs ds → Bide.setVs ev is ds = some ev' →
    ∃ A', RS K c (setsS σ is xs) H Z ev' A' ∧ is.length = xs.length
  | [], _, _, σ, ev, ev', A, R, .nil, e => by cases e; exact ⟨A, R, rfl⟩
  | [], _, _, _, _, _, _, _, .cons _ _, e => by simp [Bide.setVs] at e
  | _ :: _, _, _, _, _, _, _, _, .nil, e => by simp [Bide.setVs] at e
  | i :: is, _, _, σ, ev, ev', A, R, .cons h r, e => by
    simp only [Bide.setVs] at e
    split at e
    · rename_i ev1 h1
      obtain ⟨A1, R1⟩ := R.setV h h1
      obtain ⟨A2, R2, l2⟩ := RS.setVs R1 r e
      exact ⟨A2, R2, by simp [l2]⟩
    · cases e
theorem gNames_ok : ∀ {is : List Nat} {xs : List V} {σ : L2.St} {Q : L2.St → Hp → Prop}, is.length = xs.length → Q (setsS σ is xs) H → gNames is xs σ H Q
  | [], [], _, _, _, q => ⟨rfl, q⟩
  | [], _ :: _, _, _, h, _ => by simp at h
  | _ :: _, [], _, _, h, _ => by simp at h
  | i :: is, x :: xs, σ, Q, h, q => ⟨x, xs, rfl, gNames_ok (σ := σ.set i (some x)) (by simpa using h) q⟩
/-- a target takes a value -/
theorem RS.bindTg (R : RS K c σ H Z ev A) {tup : Bool} {tg : List Nat} {x : V} {d : D} (r : Rp K Z x d) (e : Bide.bindTg tup tg ev d = some ev') {Q : L2.St → Hp → Prop}
    (h : ∀ xs A', RS K c (setsS σ tg xs) H Z ev' A' → Q (setsS σ tg xs) H) : gTg K tup tg x σ H Q := by
  cases tup with
  | false =>
    unfold Bide.bindTg at e
    obtain ⟨A', R', l⟩ := R.setVs (.cons r .nil) e
    match tg, l with
    | [i], _ => exact h [x] A' R'
  | true =>
    cases d <;> (simp only [Bide.bindTg] at e) <;> first | (cases e; done) | skip
    cases r with
    | tup h1 h2 h3 =>
      obtain ⟨A', R', l⟩ := R.setVs h3 e
      exact ⟨_, _, rfl, .inl (.inl (R.sub _ _ h1)), l.symm, gNames_ok l (h _ A' R')⟩
theorem RS.unl (R : RS K c σ H Z ev A) {tg : List Nat} {x : V} {ds : List D} (r : Rp K Z x (.list ds)) (e : Bide.setVs ev tg ds = some ev') {Q : L2.St → Hp → Prop}
    (h : ∀ xs A', RS K c (setsS σ tg xs) H Z ev' A' → Q (setsS σ tg xs) H) : gUnl K tg.length (gNames tg) x σ H Q := by
  cases r with
  | lst h1 h2 h3 =>
    obtain ⟨A', R', l⟩ := R.setVs h3 e
    exact ⟨_, _, rfl, .inl (.inl (R.sub _ _ h1)), l.symm, gNames_ok l (h _ A' R')⟩
theorem setsS_wipe {own : List Nat} : ∀ {is : List Nat} {xs : List V} {σ : L2.St}, (∀ i ∈ is, i ∈ own) → wipe (setsS σ is xs) own = wipe σ own
  | [], _, _, _ => rfl
  | _ :: _, [], _, _ => rfl
  | i :: is, x :: xs, σ, h => by
    have one : ∀ (own : List Nat) (σ : L2.St), i ∈ own → wipe (σ.set i (some x)) own = wipe σ own := by
      intro own
      induction own with
      | nil => intro σ hm; cases hm
      | cons j js ih =>
        intro σ hm
        unfold wipe
        by_cases hj : i ∈ js
        · rw [ih σ hj]
        · have hij : i = j := by
            rcases List.mem_cons.mp hm with z | z
            · exact z
            · exact absurd z hj
          subst hij
          have com : ∀ (ks : List Nat) (σ : L2.St), i ∉ ks → (wipe (σ.set i (some x)) ks) = (wipe σ ks).set i (some x) := by
            intro ks
            induction ks with
            | nil => intro σ _; rfl
            | cons k ks ih2 =>
              intro σ hk
              have hk' : i ≠ k ∧ i ∉ ks := by simpa using hk
              unfold wipe
              rw [ih2 σ hk'.2, List.set_comm _ _ hk'.1]
          rw [com js σ hj, List.set_set]
    show wipe (setsS (σ.set i (some x)) is xs) own = _
    rw [setsS_wipe fun j hj => h j (List.mem_cons_of_mem _ hj)]
    exact one own σ (h i List.mem_cons_self)
end
end Bide

set_option autoImplicit false
set_option Elab.async false
set_option maxRecDepth 100000
set_option linter.all false
/-! Helpers for the soundness: a block's own names, its turns. -/
namespace Bide
open PySem L2
section
variable {K : PySem.W.Frag} {c : En} {σ : L2.St} {H Z H' Z' H1 Z1 : Hp} {ev ev' ev0 : Ev} {A A' : Nat → List Addr}
theorem wipeE_ok : ∀ {own : List Nat} {ev ev0 : Ev}, wipeE ev own = some ev0 → ev0.length = ev.length ∧ (∀ i, i ∉ own → ev0[i]? = ev[i]?) ∧ ∀ i ∈ own, ev0[i]? = some .no ∧ (ev[i]? = some .no ∨ ∃ d, ev[i]? = some (.sh d))
  | [], ev, ev0, e => by cases e; exact ⟨rfl, fun _ _ => rfl, fun i h => by cases h⟩
  | i :: is, ev, ev0, e => by
    simp only [wipeE] at e
    split at e
    · rename_i ev1 h1
      obtain ⟨q1, q2, q3⟩ := wipeE_ok h1
      have back : ∀ sv, ev1[i]? = some sv → (sv = .no ∨ ∃ d, sv = .sh d) → (ev[i]? = some .no ∨ ∃ d, ev[i]? = some (.sh d)) := fun sv hs hv => by
        by_cases hi : i ∈ is
        · exact (q3 i hi).2
        · rw [q2 i hi] at hs
          rcases hv with rfl | ⟨d, rfl⟩
          · exact .inl hs
          · exact .inr ⟨d, hs⟩
      split at e <;> cases e
      · rename_i hs
        refine ⟨q1, fun j hj => q2 j (fun z => hj (List.mem_cons_of_mem _ z)), fun j hj => ?_⟩
        rcases List.mem_cons.mp hj with rfl | hj
        · exact ⟨hs, back _ hs (.inl rfl)⟩
        · exact q3 j hj
      · rename_i d hs
        have hlt : i < ev1.length := (List.getElem?_eq_some_iff.mp hs).1
        refine ⟨by rw [List.length_set]; exact q1, fun j hj => ?_, fun j hj => ?_⟩
        · have hj' : j ≠ i ∧ j ∉ is := by simpa using hj
          rw [List.getElem?_set_ne (Ne.symm hj'.1)]
          exact q2 j hj'.2
        · by_cases hji : j = i
          · subst hji
            exact ⟨List.getElem?_set_self hlt, back _ hs (.inr ⟨d, rfl⟩)⟩
          · rw [List.getElem?_set_ne (Ne.symm hji)]
            rcases List.mem_cons.mp hj with z | z
            · exact absurd z hji
            · exact q3 j z
    · cases e
theorem wipe_in : ∀ {own : List Nat} {σ : L2.St} {i : Nat}, i ∈ own → ∀ x, (wipe σ own)[i]? ≠ some (some x) := by
  intro own σ i hi x h
  exact (wipe_some h).2 hi
theorem wipe_wipe : ∀ {own : List Nat} {σ : L2.St}, wipe (wipe σ own) own = wipe σ own := by
  intro own σ
  apply List.ext_getElem?
  intro i
  by_cases hi : i ∈ own
  · have h1 : ∀ (τ : L2.St), (wipe τ own)[i]? = if i < τ.length then some none else none := by
      intro τ
      by_cases hl : i < τ.length
      · rw [if_pos hl]
        have hl' : i < (wipe τ own).length := by rw [wipe_length]; exact hl
        rw [List.getElem?_eq_getElem hl']
        congr 1
        cases q : (wipe τ own)[i] with
        | none => rfl
        | some x => exact absurd (by rw [List.getElem?_eq_getElem hl', q]) (wipe_in (σ := τ) hi x)
      · rw [if_neg hl, List.getElem?_eq_none (by rw [wipe_length]; omega)]
    rw [h1, h1, wipe_length]
  · rw [wipe_out hi]
/-- a block begins -/
theorem RS.wiped (R : RS K c σ H Z ev A) {own : List Nat} (e : wipeE ev own = some ev0) : RS K c (wipe σ own) H Z ev0 A := by
  obtain ⟨q1, q2, q3⟩ := wipeE_ok e
  have emp : ∀ i ∈ own, A i = [] := fun i hi => by
    rcases (q3 i hi).2 with h | ⟨d, h⟩
    · exact R.sl i _ h
    · exact (R.sl i _ h).1
  exact {
    len := by rw [wipe_length, q1]; exact R.len
    sub := R.sub
    z0 := R.z0
    zf := R.zf
    fr := R.fr
    sl := fun i sv h => by
      by_cases hi : i ∈ own
      · rw [(q3 i hi).1] at h
        cases h
        exact emp i hi
      · rw [q2 i hi] at h
        rw [wipe_out hi]
        exact R.sl i sv h
    out := fun i hi => R.out i (by rw [← q1]; exact hi)
    zo := R.zo
    ao := R.ao
    dis := R.dis
    nod := R.nod
    io := fun i a h => by
      obtain ⟨h1, ds, h2⟩ := R.io i a h
      refine ⟨h1, ds, ?_⟩
      by_cases hi : i ∈ own
      · rw [emp i hi] at h1; cases h1
      · rw [q2 i hi]; exact h2
    oi := fun i ds h => by
      by_cases hi : i ∈ own
      · rw [(q3 i hi).1] at h; cases h
      · rw [q2 i hi] at h; exact R.oi i ds h
    pf := R.pf
    ft := R.ft }
theorem unwipe_len (ev0 : Ev) : ∀ {own : List Nat} {ev : Ev}, (unwipe ev0 ev own).length = ev.length
  | [], _ => rfl
  | i :: is, ev => by simp [unwipe,unwipe_len ev0 (own := is)]
theorem unwipe_out (ev0 : Ev) : ∀ {own : List Nat} {ev : Ev} {i : Nat}, i ∉ own → (unwipe ev0 ev own)[i]? = ev[i]?
  | [], _, _, _ => rfl
  | j :: js, ev, i, h => by
    have h' : i ≠ j ∧ i ∉ js := by simpa using h
    simp only [unwipe]
    rw [List.getElem?_set_ne (Ne.symm h'.1)]
    exact unwipe_out ev0 h'.2
theorem unwipe_in (ev0 : Ev) : ∀ {own : List Nat} {ev : Ev} {i : Nat}, i ∈ own → i < ev.length → (unwipe ev0 ev own)[i]? = some (ev0[i]?.getD .no)
  | [], _, _, h, _ => by cases h
  | j :: js, ev, i, h, l => by
    simp only [unwipe]
    by_cases hij : i = j
    · subst hij
      rw [List.getElem?_set_self (by rw [unwipe_len]; exact l)]
    · rw [List.getElem?_set_ne (Ne.symm hij)]
      rcases List.mem_cons.mp h with z | z
      · exact absurd z hij
      · exact unwipe_in ev0 z l
/-- a block ends -/
theorem RS.unwiped (R1 : RS K c σ H1 Z1 ev A) {own : List Nat} {evs : Ev} (e1 : wipeE ev own = some evs) (R : RS K c (wipe σ own) H Z ev0 A') (e : wipeE ev' own = some ev0) (s : Same Z1 Z) : RS K c σ H Z (unwipe ev ev' own) A' := by
  obtain ⟨q1, q2, q3⟩ := wipeE_ok e
  obtain ⟨p1, p2, p3⟩ := wipeE_ok e1
  have emp : ∀ i ∈ own, A' i = [] := fun i hi => R.sl i _ (q3 i hi).1
  have hl : σ.length = ev'.length := by rw [← q1, ← R.len, wipe_length]
  exact {
    len := by rw [unwipe_len]; exact hl
    sub := R.sub
    z0 := R.z0
    zf := R.zf
    fr := R.fr
    sl := fun i sv h => by
      by_cases hi : i ∈ own
      · have hlt : i < ev'.length := by
          rw [← unwipe_len ev (own := own)]
          exact (List.getElem?_eq_some_iff.mp h).1
        rw [unwipe_in ev hi hlt] at h
        cases h
        rw [emp i hi]
        rcases (p3 i hi).2 with z | ⟨d, z⟩
        · rw [z]; exact rfl
        · rw [z]
          obtain ⟨_, v, g1, g2⟩ := R1.sl i _ z
          exact ⟨rfl, v, g1, g2.mono s⟩
      · rw [unwipe_out ev hi, ← q2 i hi] at h
        have := R.sl i sv h
        rw [wipe_out hi] at this
        exact this
    out := fun i hi => R.out i (by rw [q1]; rw [unwipe_len] at hi; exact hi)
    zo := R.zo
    ao := R.ao
    dis := R.dis
    nod := R.nod
    io := fun i a h => by
      obtain ⟨h1, ds, h2⟩ := R.io i a h
      refine ⟨h1, ds, ?_⟩
      by_cases hi : i ∈ own
      · rw [emp i hi] at h1; cases h1
      · rw [unwipe_out ev hi, ← q2 i hi]; exact h2
    oi := fun i ds h => by
      by_cases hi : i ∈ own
      · have hlt : i < ev'.length := by
          rw [← unwipe_len ev (own := own)]
          exact (List.getElem?_eq_some_iff.mp h).1
        rw [unwipe_in ev hi hlt] at h
        rcases (p3 i hi).2 with z | ⟨d, z⟩ <;> (rw [z] at h; cases h)
      · rw [unwipe_out ev hi, ← q2 i hi] at h
        exact R.oi i ds h
    pf := R.pf
    ft := R.ft }
theorem lcL_wiped {own tg : List Nat} {tup : Bool} {t : Ev → R Bool} {f : Ev → R RV} : ∀ {ds acc : List D} {ev : Ev} {r : List D} {e : Ev}, lcL own tg tup t f ds acc ev = .ok r e → ∃ ev0, wipeE ev own = some ev0
  | [], acc, ev, r, e, h => by
    simp only [lcL] at h
    split at h
    · rename_i h1; exact ⟨_, h1⟩
    · cases h
  | d :: ds, acc, ev, r, e, h => by
    simp only [lcL] at h
    split at h
    · rename_i h1; exact ⟨_, h1⟩
    · cases h
theorem lcLL_wiped {own tg : List Nat} {tup : Bool} {f : Ev → R RV} : ∀ {ds : List D} {acc : List (List D)} {ev : Ev} {r : List (List D)} {e : Ev}, lcLL own tg tup f ds acc ev = .ok r e → ∃ ev0, wipeE ev own = some ev0
  | [], acc, ev, r, e, h => by
    simp only [lcLL] at h
    split at h
    · rename_i h1; exact ⟨_, h1⟩
    · cases h
  | d :: ds, acc, ev, r, e, h => by
    simp only [lcLL] at h
    split at h
    · rename_i h1; exact ⟨_, h1⟩
    · cases h
end
/-- an evaluation, whatever is kept meanwhile; nothing is raised -/
def Wd.blk (w : Wd) (c : En) : Wd := { w with c := c, W := fun _ _ _ _ => False }
def anyE (w : Wd) (e : E) : TE := fun σ H Q => ∃ c, semE (w.blk c) e σ H Q
def anyC (w : Wd) (t : C) : TT := fun σ H Q => ∃ c, semC (w.blk c) t σ H Q
section
variable {w : Wd} {σ : L2.St} {H Z H1 Z1 : Hp} {ev evs : Ev} {A : Nat → List Addr}
/-- the turns of a comprehension -/
theorem lc_turns {own tg : List Nat} {tup : Bool} {cd : C} {e : E} {ds xs : List D} {e2 : Ev} {J : L2.It} {Q : VK} (ho : ∀ i ∈ tg, i ∈ own) (wk : WalkOkF w.K J Z w.c.F ds) (R : RS w.K w.c σ H Z ev A) (hw : wipeE ev own = some evs)
    (hl : lcL own tg tup (evC w.cf cd) (evE w.cf e) ds [] ev = .ok xs e2)
    (hQ : Out w σ Z (.ok (.f (.l xs)) (unwipe ev e2 own)) fun r ev' H' Z' A' => ∀ x, RR w.K w.c σ H' Z' ev' A' x r → Q x H') :
    ∀ dA, H dA = none → ∃ W : Nat → Nat → Hp → Prop, (∃ m, W 0 m (upd H dA (.lst []))) ∧ ∀ i m H, W i m H →
      (J.stop i H ∧ Q (.ref dA) H) ∨ (J.go i H ∧ ∃ Nx : Hp → Prop, (∀ H', Nx H' → ∃ m', m' < m ∧ W (i + 1) m' H') ∧ ∀ x H', J.yld i H x H' → gTg w.K tup tg x (wipe σ own) H' fun σ2 H2 => wipe σ2 own = wipe σ own ∧ anyC w cd σ2 H2 fun b H3 =>
        if b = true then anyE w e σ2 H3 fun y H4 => ∃ acc, H4 dA = some (.lst acc) ∧ acc.length < sizeLine ∧ Nx (upd H4 dA (.lst (acc ++ [y]))) else Nx H3) := by
  intro dA hD
  obtain ⟨hsz, G, Y, wlk, hG, hY⟩ := wk
  obtain ⟨n1, n2, n3, n4⟩ := R.notin hD
  refine lc_it wlk (fun i H' => ∃ (acc : List D) (av : List V) (ev' ev0 : Ev) (Z' : Hp) (A' : Nat → List Addr), Same Z Z' ∧ wipeE ev' own = some ev0 ∧ RS w.K w.c (wipe σ own) H' Z' ev0 A' ∧ H' dA = some (.lst av) ∧ Rps w.K Z' av acc ∧ Z' dA = none ∧
      (∀ i, dA ∉ A' i) ∧ av.length ≤ i ∧ lcL own tg tup (evC w.cf cd) (evE w.cf e) (ds.drop i) acc ev' = .ok xs e2)
    ⟨[], [], ev, evs, Z, A, Same.refl _, hw, (R.wiped hw).fresh hD, upd_same, .nil, n1, n4, Nat.le_refl _, hl⟩ (fun i H' _ h => ?_) (fun i x H' H'' hi h y => ?_) (fun H' h => ?_)
  · obtain ⟨_, _, _, _, Z', _, s, _, R', _⟩ := h
    exact hG Z' H' s R'.sub fun p o e => (R'.pf p o e).1
  · obtain ⟨acc, av, ev', ev0, Z', A', s, hw', R', hd, ra, zd, ad, la, hl'⟩ := h
    obtain ⟨Z2, d, hdi, g, rp⟩ := hY i H' x H'' Z' hi y s R'.sub fun p o e => (R'.pf p o e).1
    have R2 := R'.ext g.zz g.sub g.zf g.hh
    have hd2 : H'' dA = some (.lst av) := g.hh _ _ hd
    have zd2 : Z2 dA = none := by
      cases q : Z2 dA with
      | none => rfl
      | some u =>
        rcases g.zf dA u q with z | z | ⟨ys, rfl⟩
        · rw [zd] at z; cases z
        · rw [hd] at z; cases z
        · have z := g.sub dA _ q
          rw [hd2] at z; cases z
    have Rh := R2.hold (as := [dA]) (fun p hp => by
      cases List.mem_singleton.mp hp
      exact ⟨by rw [hd2]; simp, zd2, ad⟩) (fun p hp xs hx => by
      cases List.mem_singleton.mp hp
      rw [hd2] at hx; cases hx)
    have un : ∀ {σ' : L2.St} {H3 Z3 : Hp} {ev3 : Ev} {A3 : Nat → List Addr}, RS w.K (w.c.hold H'' [dA]) σ' H3 Z3 ev3 A3 → RS w.K w.c σ' H3 Z3 ev3 A3 ∧ H3 dA = some (.lst av) ∧ Z3 dA = none ∧ ∀ i, dA ∉ A3 i := fun R3 => by
      obtain ⟨q1, q2⟩ := R3.unhold fun p hp => by cases List.mem_singleton.mp hp; exact n3
      exact ⟨q1, q2 dA (by simp) _ hd2⟩
    have hdr : ds.drop i = d :: ds.drop (i + 1) := by
      have := List.getElem?_eq_some_iff.mp hdi
      rw [← this.2]
      exact List.drop_eq_getElem_cons this.1
    rw [hdr] at hl'
    simp only [lcL, hw'] at hl'
    split at hl'
    · rename_i ev1 hb
      refine RS.bindTg Rh rp hb fun vs A1 R3 => ?_
      have hσ : wipe (setsS (wipe σ own) tg vs) own = wipe σ own := by rw [setsS_wipe ho, wipe_wipe]
      refine ⟨hσ, w.c.hold H'' [dA], ev1, Z2, A1, R3, ?_⟩
      show Out (w.blk (w.c.hold H'' [dA])) _ Z2 (evC w.cf cd ev1) _
      cases hc : evC w.cf cd ev1 with
      | bad => rw [hc] at hl'; cases hl'
      | ex x' e' => rw [hc] at hl'; cases hl'
      | ok b ev2 =>
        rw [hc] at hl'
        intro H3 Z3 A3 s3 R4
        cases b with
        | false =>
          rw [if_neg (by simp)]
          obtain ⟨ev0', hw2⟩ := lcL_wiped hl'
          obtain ⟨R5, k1, k2, k3⟩ := un R4
          have R6 := R5.wiped hw2
          rw [hσ] at R6
          exact ⟨acc, av, ev2, ev0', Z3, A3, (s.trans g.zz).trans s3, hw2, R6, k1, ra.mono (g.zz.trans s3), k2, k3, by omega, hl'⟩
        | true =>
          rw [if_pos rfl]
          refine ⟨w.c.hold H'' [dA], ev2, Z3, A3, R4, ?_⟩
          show Out (w.blk (w.c.hold H'' [dA])) _ Z3 (evE w.cf e ev2) _
          simp only at hl'
          cases he : evE w.cf e ev2 with
          | bad => rw [he] at hl'; cases hl'
          | ex x' e' => rw [he] at hl'; cases hl'
          | ok r ev3 =>
            rw [he] at hl'
            intro H4 Z4 A4 s4 R5 y' rr
            obtain ⟨Z5, s5, R6, rr'⟩ := R5.stl rr
            simp only at hl'
            split at hl'
            · rename_i x' ev4 hx
              obtain ⟨Z6, A6, s6, R7, rp'⟩ := R6.esc rr' hx
              obtain ⟨R8, k1, k2, k3⟩ := un R7
              obtain ⟨ev0', hw2⟩ := lcL_wiped hl'
              have R9 := R8.wiped hw2
              rw [hσ] at R9
              have sa : Same Z Z6 := ((((s.trans g.zz).trans s3).trans s4).trans s5).trans s6
              have sb : Same Z' Z6 := (((g.zz.trans s3).trans s4).trans s5).trans s6
              exact ⟨av, k1, by omega, acc ++ [x'], av ++ [y'], ev4, ev0', Z6, A6, sa, hw2, R9.aside k2 k3 n2 n3, upd_same, (ra.mono sb).append (.cons rp' .nil), k2, k3, by simp; omega, hl'⟩
            · cases hl'
    · cases hl'
  · obtain ⟨acc, av, ev', ev0, Z', A', s, hw', R', hd, ra, zd, ad, la, hl'⟩ := h
    rw [List.drop_eq_nil_of_le (Nat.le_refl _)] at hl'
    simp only [lcL, hw'] at hl'
    cases hl'
    exact hQ H' Z' A' s (R.unwiped hw R' hw' s) (.ref dA) ⟨dA, [dA], rfl, ⟨rfl, av, hd, by omega, ra⟩, by simp, fun b hb => by
      cases List.mem_singleton.mp hb
      exact ⟨zd, n2, n3, ad⟩⟩
/-- the turns of a comprehension that makes lists anew -/
theorem lc2_turns {own tg : List Nat} {tup : Bool} {e : E} {ds : List D} {xss : List (List D)} {e2 : Ev} {J : L2.It} {Q : VK} (ho : ∀ i ∈ tg, i ∈ own) (wk : WalkOk w.K J Z ds) (R : RS w.K w.c σ H Z ev A) (hw : wipeE ev own = some evs)
    (hl : lcLL own tg tup (evE w.cf e) ds [] ev = .ok xss e2)
    (hQ : Out w σ Z (.ok (.f (.ll xss)) (unwipe ev e2 own)) fun r ev' H' Z' A' => ∀ x, RR w.K w.c σ H' Z' ev' A' x r → Q x H') :
    ∀ dA, H dA = none → ∃ W : Nat → Nat → Hp → Prop, (∃ m, W 0 m (upd H dA (.lst []))) ∧ ∀ i m H, W i m H →
      (J.stop i H ∧ Q (.ref dA) H) ∨ (J.go i H ∧ ∃ Nx : Hp → Prop, (∀ H', Nx H' → ∃ m', m' < m ∧ W (i + 1) m' H') ∧ ∀ x H', J.yld i H x H' → gTg w.K tup tg x (wipe σ own) H' fun σ2 H2 => wipe σ2 own = wipe σ own ∧ anyC w .no σ2 H2 fun b H3 =>
        if b = true then anyE w e σ2 H3 fun y H4 => ∃ acc, H4 dA = some (.lst acc) ∧ acc.length < sizeLine ∧ Nx (upd H4 dA (.lst (acc ++ [y]))) else Nx H3) := by
  intro dA hD
  obtain ⟨hsz, G, Y, wlk, hG, hY⟩ := wk
  obtain ⟨n1, n2, n3, n4⟩ := R.notin hD
  refine lc_it wlk (fun i H' => ∃ (acc : List (List D)) (as : List Addr) (ev' ev0 : Ev) (Z' : Hp) (A' : Nat → List Addr), Same Z Z' ∧ wipeE ev' own = some ev0 ∧ RS w.K w.c (wipe σ own) H' Z' ev0 A' ∧ OC w.K Z' H' as dA (.ll acc) ∧ as.Nodup ∧
      (∀ b ∈ as, Z' b = none ∧ w.c.H b = none ∧ w.c.F b = none ∧ ∀ i, b ∉ A' i) ∧ acc.length ≤ i ∧ lcLL own tg tup (evE w.cf e) (ds.drop i) acc ev' = .ok xss e2)
    ⟨[], [dA], ev, evs, Z, A, Same.refl _, hw, (R.wiped hw).fresh hD, ⟨[], rfl, upd_same, Nat.zero_le _, rfl, fun i b ds h => by simp at h⟩, by simp, fun b hb => by
      cases List.mem_singleton.mp hb
      exact ⟨n1, n2, n3, n4⟩, Nat.le_refl _, hl⟩ (fun i H' _ h => ?_) (fun i x H' H'' hi h y => ?_) (fun H' h => ?_)
  · obtain ⟨_, _, _, _, Z', _, s, _, R', _⟩ := h
    exact hG Z' H' s R'.sub
  · obtain ⟨acc, as, ev', ev0, Z', A', s, hw', R', oc, nd, own', la, hl'⟩ := h
    obtain ⟨Z2, d, hdi, g, rp⟩ := hY i H' x H'' Z' hi y s R'.sub
    have R2 := R'.ext g.zz g.sub g.zf g.hh
    have oc2 : OC w.K Z2 H'' as dA (.ll acc) := oc.mono g.zz fun b _ u h => g.hh b u h
    have zd2 : ∀ b ∈ as, Z2 b = none := fun b hb => by
      cases q : Z2 b with
      | none => rfl
      | some u =>
        rcases g.zf b u q with z | z | ⟨ys, rfl⟩
        · rw [(own' b hb).1] at z; cases z
        · exact absurd z (oc.alive b hb)
        · exact absurd (g.sub b _ q) (oc2.lstLike b hb ys)
    have Rh := R2.hold (as := as) (fun p hp => ⟨oc2.alive p hp, zd2 p hp, (own' p hp).2.2.2⟩) oc2.lstLike
    have un : ∀ {σ' : L2.St} {H3 Z3 : Hp} {ev3 : Ev} {A3 : Nat → List Addr}, RS w.K (w.c.hold H'' as) σ' H3 Z3 ev3 A3 → Same Z2 Z3 → RS w.K w.c σ' H3 Z3 ev3 A3 ∧ OC w.K Z3 H3 as dA (.ll acc) ∧ ∀ b ∈ as, Z3 b = none ∧ w.c.H b = none ∧ w.c.F b = none ∧ ∀ i, b ∉ A3 i := fun R3 s3 => by
      obtain ⟨q1, q2⟩ := R3.unhold fun p hp => (own' p hp).2.2.1
      refine ⟨q1, oc2.mono s3 fun b hb u h => (q2 b hb u h).1, fun b hb => ?_⟩
      cases hh : H'' b with
      | none => exact absurd hh (oc2.alive b hb)
      | some u =>
        obtain ⟨_, k2, k3⟩ := q2 b hb u hh
        exact ⟨k2, (own' b hb).2.1, (own' b hb).2.2.1, k3⟩
    have hdr : ds.drop i = d :: ds.drop (i + 1) := by
      have := List.getElem?_eq_some_iff.mp hdi
      rw [← this.2]
      exact List.drop_eq_getElem_cons this.1
    rw [hdr] at hl'
    simp only [lcLL, hw'] at hl'
    split at hl'
    · rename_i ev1 hb
      refine RS.bindTg Rh rp hb fun vs A1 R3 => ?_
      have hσ : wipe (setsS (wipe σ own) tg vs) own = wipe σ own := by rw [setsS_wipe ho, wipe_wipe]
      refine ⟨hσ, w.c.hold H'' as, ev1, Z2, A1, R3, ?_⟩
      show Out (w.blk (w.c.hold H'' as)) _ Z2 (evC w.cf .no ev1) _
      simp only [evC]
      intro H3 Z3 A3 s3 R4
      rw [if_pos rfl]
      refine ⟨w.c.hold H'' as, ev1, Z3, A3, R4, ?_⟩
      show Out (w.blk (w.c.hold H'' as)) _ Z3 (evE w.cf e ev1) _
      split at hl'
      · rename_i ys ev3 he
        rw [he]
        intro H4 Z4 A4 s4 R5 y' rr
        obtain ⟨b, bs', rfl, ocb, ndb, fb⟩ := rr
        obtain ⟨rfl, vs', q1, q2, q3⟩ := ocb
        obtain ⟨f1, f2, f3, f4⟩ := fb b (by simp)
        have hbn : b ∉ as ∧ w.c.F b = none := by
          have f3 : addZ w.c.F H'' as b = none := f3
          by_cases hm : b ∈ as
          · rw [addZ_in hm] at f3
            exact absurd f3 (oc2.alive b hm)
          · rw [addZ_out hm] at f3
            exact ⟨hm, f3⟩
        obtain ⟨R8, k1, k2⟩ := un R5 (s3.trans s4)
        obtain ⟨ev0', hw2⟩ := lcLL_wiped hl'
        have R9 := R8.wiped hw2
        rw [hσ] at R9
        have sa : Same Z Z4 := ((s.trans g.zz).trans s3).trans s4
        obtain ⟨bs, rfl, p1, p2, p3, p4⟩ := k1
        have hdA := k2 dA (by simp)
        have hbd : b ≠ dA := fun e => hbn.1 (by rw [e]; simp)
        have hlen : bs.length ≤ i := by omega
        have hlt : i < sizeLine := by omega
        refine ⟨bs.map V.ref, p1, by simp; omega, acc ++ [ys], dA :: (bs ++ [b]), ev3, ev0', Z4, A4, sa, hw2, R9.aside hdA.1 hdA.2.2.2 hdA.2.1 hdA.2.2.1, ⟨bs ++ [b], rfl, by rw [upd_same]; simp, by simp; omega, by simp [p3], fun j c ds' e1 e2 => ?_⟩, ?_, ?_, by simp; omega, hl'⟩
        · rcases Nat.lt_or_ge j bs.length with hj | hj
          · rw [List.getElem?_append_left hj] at e1
            rw [List.getElem?_append_left (by omega)] at e2
            obtain ⟨xs, r1, r2, r3⟩ := p4 j c ds' e1 e2
            have hc : c ∈ bs := List.mem_of_getElem? e1
            exact ⟨xs, by rw [upd_ne (fun e => by subst e; exact (List.nodup_cons.mp nd).1 hc)]; exact r1, r2, r3⟩
          · rw [List.getElem?_append_right hj] at e1
            rw [List.getElem?_append_right (by omega)] at e2
            rw [← p3] at e2
            cases hj2 : j - bs.length with
            | zero =>
              rw [hj2] at e1 e2
              simp at e1 e2
              subst e1 e2
              exact ⟨vs', by rw [upd_ne hbd]; exact q1, q2, q3⟩
            | succ n => rw [hj2] at e1; simp at e1
        · have nd' := List.nodup_cons.mp nd
          rw [List.nodup_cons]
          refine ⟨by simp [nd'.1]; exact fun e => hbd e.symm, ?_⟩
          rw [List.nodup_append]
          refine ⟨nd'.2, by simp, fun x hx y hy => ?_⟩
          cases List.mem_singleton.mp hy
          intro e
          subst e
          exact hbn.1 (by simp [hx])
        · intro c hc
          rcases List.mem_cons.mp hc with rfl | hc
          · exact hdA
          · rcases List.mem_append.mp hc with hc | hc
            · exact k2 c (by simp [hc])
            · cases List.mem_singleton.mp hc
              exact ⟨f1, f2, hbn.2, f4⟩
      · cases hl'
    · cases hl'
  · obtain ⟨acc, as, ev', ev0, Z', A', s, hw', R', oc, nd, own', la, hl'⟩ := h
    rw [List.drop_eq_nil_of_le (Nat.le_refl _)] at hl'
    simp only [lcLL, hw'] at hl'
    cases hl'
    exact hQ H' Z' A' s (R.unwiped hw R' hw' s) (.ref dA) ⟨dA, as, rfl, oc, nd, own'⟩
end
end Bide

set_option autoImplicit false
set_option Elab.async false
set_option maxRecDepth 100000
set_option linter.all false
set_option maxHeartbeats 4000000
/-! A dict built by a comprehension, whatever its keys are: ints and texts, or tuples of these. -/
namespace Bide
open PySem PySem.Spec PyProof.Rows L2

def dNew : Bool → HO
  | false => .dK []
  | true => .dT []
theorem dNew_ok {P : Program} {w : World} {H : Hp} (t : Bool) (h : Heap) (hb : sysModules < h.objs.size) :
    ObjOk P w H (h.push { cls := .type "dict", data := .dict #[] }) h.objs.size (dNew t) := by
  cases t
  · exact dk_empty h hb
  · exact dt_empty h hb
section
variable {X : Cx} {pins : List (Addr × Obj)} {σ : L2.St} {H H' : Hp} {s : Shared} {a : Addr} {y v : V} {u r : Value} {E : Value → Shared → Prop} {Q : Unit → Shared → Prop}
theorem d_store (hu : X.A.units < cLine) (I : Inv X pins σ H s) (g : DPut H a y v H') (ry : RelV y u) (rv : RelV v r) (h : ∀ s', Inv X pins σ H' s' → Q () s') : wpAny (model X.prog X.w) X.A (dictSet a u r) Q E s := by
  rcases g with ⟨kvs, k, e, rfl, l, rfl⟩ | ⟨kvs, k, b, e, rfl, eb, l, rfl⟩
  · exact d_dictSet I e l ry rv h
  · cases (show u = Value.ref b from ry)
    obtain ⟨z, nm, ys, kt, dd⟩ := dt_of I.hok e
    have hy : ys.length ≤ sizeLine := by rw [← Paired.length kt]; exact z
    have grow := length_putK kvs k v
    refine wpAny_dictSet_heap (hsz := hy) (knd := tupleKind (mixKind X.prog X.w)) hu (key_of I.hok eb) dd fun h1 dd1 sb => h _ ?_
    obtain ⟨q, es, ep, g1, g2, g3, g4, _, g5⟩ := dd1
    refine d_write I (by rw [e]; trivial) sb ⟨q, g1⟩ ⟨by omega, nm, _, (kt.put k eb rv).keeps fun p zs ep' => ?_, q, es, ep, g1, g2, g3, g4, g5⟩
    by_cases hpa : p = a
    · rw [hpa, e] at ep'; cases ep'
    · rw [upd_ne hpa]; exact ep'
end
/-- {k: v for target in iter if ..}: D the new dict -/
def tDcc (t : Bool) (wi : TI) (g : TG) (tt : TT) (tk tv : TE) (vs : List Nat) : TE := fun σ H Q => wi σ H fun J H1 => ∀ D, H1 D = none →
  ∃ W : Nat → Nat → Hp → Prop, (∃ m, W 0 m (upd H1 D (dNew t))) ∧ ∀ i m H, W i m H → (J.stop i H ∧ Q (.ref D) H) ∨
    (J.go i H ∧ ∃ Nx : Hp → Prop, (∀ H', Nx H' → ∃ m', m' < m ∧ W (i + 1) m' H') ∧ ∀ x H', J.yld i H x H' →
      g x (wipe σ vs) H' fun σ2 H2 => wipe σ2 vs = wipe σ vs ∧ tt σ2 H2 fun b H3 =>
        match b with
        | true => tk σ2 H3 fun y H4 => tv σ2 H4 fun z H5 => ∃ H6, DPut H5 D y z H6 ∧ Nx H6
        | false => Nx H3)
section
variable {X : Cx}
abbrev Blk (X : Cx) (scope : Scope) (φ : Cx → Prop) : Prop := ∀ (s : Shared) (H : Hp) (C : Addr) (cl : List (Str × Addr)) (fp : List Addr), φ (X.blk s H scope (compEnvC scope cl C X.env) fp)
theorem dcc {pins : List (Addr × Obj)} {sA : Shared} {σ : L2.St} {H : Hp} {Q : VK} {kx vx tg iter : Expr} {ifs : List Expr} {scope : Scope} {own : List (Str × Nat)} {pos pos' : Pos} {t : Bool} {wi : TI} {g : TG} {tt : TT} {tk tv : TE}
    {use : Option (Value → Sem Unit)} {Qf : Value → Shared → Prop} (hu : X.A.units < cLine) (calm : X.calm = true) (nd : X.N.Nodup) (I : Inv X pins σ H sA) (hi : PI X tg iter wi) (ok : BlkOk X.N X.env.scope scope own)
    (hg : Blk X scope fun X => PG X tg g) (ht : Blk X scope fun X => PTs X ifs tt) (hk : Blk X scope fun X => PE X kx tk) (hv : Blk X scope fun X => PE X vx tv) (hs : ∀ x, foldedSetIterable iter X.env x = pure x)
    (h : tDcc t wi g tt tk tv (own.map (·.2)) σ H Q)
    (fin : ∀ D C s' m H', Inv X pins σ H' s' → Q (.ref D) H' → s'.heap.Ns C m → FpOk X pins H' C → compPost (model X.prog X.w) X.A X.xe use Qf (.ref D) C (.ok .next) s') :
    wpAny (model X.prog X.w) X.A (comprehension (.DictComp kx vx [⟨tg, iter, ifs, 0⟩] scope pos) scope X.env pos' newDict false (eval iter X.env) use) Qf X.xe sA := by
  have fr : ∀ n ∈ scope.names, n.2 = .free → ∃ c, X.env.cells.lookup n.1 = some c := fun n hn e => (ok.free n hn e).elim (fun z => I.ok.has _ (.inl z)) fun z => I.ok.has _ (.inr z)
  refine wpAny_comprehension_free (use := use) rfl hs (closure_ok fr) ok.kind (fun n hn e => by rw [ok.uniq n hn, e])
    (thn (hi.run pins sA σ H _ I h) fun v0 sB qB => thn qB fun v1 sC ⟨it, fp, tn, J, HC, e1, IC, T, stC, fpC, qC⟩ => ?_)
  subst e1
  refine wpAny_newObj_type (newEnv_comp ?_)
  generalize eD : sC.heap.objs.size = D
  obtain ⟨W, ⟨m0, w0⟩, turn⟩ := qC D (IC.hok.fresh (Nat.le_of_eq eD))
  -- the new dict
  generalize eE : ({ sC with heap := sC.heap.push { cls := .type "dict", data := .dict #[] } } : Shared) = sE
  generalize eHE : upd HC D (dNew t) = HE at w0
  have IE : Inv X pins σ HE sE := by
    subst eE eHE eD
    exact IC.laid (t' := sC.toks) (fun p o z => Heap.get?_push_of_some _ z) (Nat.le_refl _) (dNew_ok t sC.heap IC.big)
  have hpE : sE.heap = sC.heap.push { cls := .type "dict", data := .dict #[] } := by rw [← eE]
  have lt : ∀ b ∈ fp, b < sC.heap.objs.size := fun b hb => (T.obj _ _ stC b hb).elim fun o z => Heap.lt_size z.1
  have fpE : ∀ b ∈ fp, FpOk X pins HE b ∧ b < sE.heap.objs.size := fun b hb => by
    have l := lt b hb
    have ne : b ≠ D := by rw [← eD]; exact Nat.ne_of_lt l
    refine ⟨⟨?_, (fpC b hb).2⟩, ?_⟩
    · rw [← eHE, upd_ne ne]; exact (fpC b hb).1
    · rw [hpE, Heap.size_push]; exact Nat.lt_succ_of_lt l
  have stE : tn 0 sE.heap := T.keep _ _ _ stC fun p _ o z => by rw [hpE]; exact Heap.get?_push_of_some _ z
  have IF := block_start IE ok nd fpE
  generalize eL : cellsFrom (sE.heap.objs.size + 1) scope.names (cloFrom X.env.cells scope.names []) = cl at IF ⊢
  have pg := hg sE HE sE.heap.objs.size cl fp
  have pt := ht sE HE sE.heap.objs.size cl fp
  have pk := hk sE HE sE.heap.objs.size cl fp
  have pv := hv sE HE sE.heap.objs.size cl fp
  show codeAny _ _ (.compStart (.DictComp kx vx [⟨tg, iter, ifs, 0⟩] scope pos) 0 (.ref it) (.ref D) (compEnvC scope cl sE.heap.objs.size X.env)) (compPost (model X.prog X.w) X.A X.xe use Qf (.ref D) sE.heap.objs.size)
    { sE with heap := pushCells (sE.heap.push { cls := .type "dict", data := .dict #[] }) scope.names }
  generalize eC : compEnvC scope cl sE.heap.objs.size X.env = ce at IF pg pt pk pv ⊢
  have eloc : ce.locals = sE.heap.objs.size := by subst eC; rfl
  generalize eF : ({ sE with heap := pushCells (sE.heap.push { cls := .type "dict", data := .dict #[] }) scope.names } : Shared) = sF at IF ⊢
  have stF : tn 0 sF.heap := T.keep _ _ _ stE fun p _ o z => by rw [← eF]; exact pushCells_keeps _ _ _ _ (Heap.get?_push_of_some _ z)
  have fpB : ∀ {σ1 : L2.St} {H1 : Hp} {s1 : Shared}, Inv (X.blk sE HE scope ce fp) [] σ1 H1 s1 → (∀ b ∈ fp, H1 b = none) → ∀ b ∈ fp, FpOk (X.blk sE HE scope ce fp) [] H1 b := fun {σ1 H1 s1} I1 n1 b hb =>
    ⟨n1 b hb, (I1.ok.exf b hb).1, I1.ok.exfs b hb, .inl hb, fun n c z => (I1.ok.exf b hb).2 n c z, fun p hp => absurd (show p ∈ ([] : List (Addr × Obj)) ++ [] from hp) (by simp)⟩
  have loop : codeAny (model X.prog X.w) X.A (.compLoop (.DictComp kx vx [⟨tg, iter, ifs, 0⟩] scope pos) 0 (.ref it) (.ref D) ce) (compPost (model X.prog X.w) X.A X.xe use Qf (.ref D) sE.heap.objs.size) sF := by
    refine compLoop_anyD (fun n s1 => ∃ i H1, Inv (X.blk sE HE scope ce fp) [] (wipe σ (own.map (·.2))) H1 s1 ∧ tn i s1.heap ∧ (∀ b ∈ fp, H1 b = none) ∧ W i n H1) ?_ m0
      ⟨0, HE, IF, stF, fun b hb => (fpE b hb).1.1, w0⟩
    rintro n s1 ⟨i, H1, I1, st1, n1, w1⟩
    rcases turn i n H1 w1 with ⟨stop, qe⟩ | ⟨go, Nx, hNx, step⟩
    · -- the end: back in the def's context
      refine thnF (T.done (X.blk sE HE scope ce fp) rfl rfl rfl calm i [] s1 _ H1 (fun _ _ => False) I1 (fpB I1 n1) st1 stop) fun r s2 ⟨hr, I2⟩ => ?_
      subst hr
      have I3 : Inv X pins σ H1 s2 := IE.call' (ch := fp) I2.os I2.base I2.hok I2.bare fun b hb =>
        let z := (fpE b hb).1
        ⟨z.2.2.2.1, z.2.1, z.2.2.2.2.1, z.2.2.2.2.2⟩
      have nC : H1 sE.heap.objs.size = none := by
        have z : H1 ce.locals = none := I2.free
        rwa [eloc] at z
      obtain ⟨m, hn, _⟩ := I2.loc
      have hn : s2.heap.Ns ce.locals m := hn
      rw [eloc] at hn
      exact fin D _ s2 m H1 I3 qe hn (IE.fpOk (Nat.le_refl _) nC)
    · refine thnF (T.item (X.blk sE HE scope ce fp) rfl rfl rfl calm i [] s1 _ H1 (fun _ _ => False) I1 (fpB I1 n1) st1 go) fun r s2 ⟨u, hr, q2⟩ => ?_
      subst hr
      refine thnF q2 fun _ s3 ⟨x, H3, I3, r3, y3, st3, n3⟩ => ?_
      refine thnF (pg.run _ s3 _ H3 x u _ (I3.pinned (fpB I3 n3) (T.obj _ _ st3)) r3 (step x H3 y3)) fun _ s4 ⟨σ4, H4, I4, hw4, q4⟩ => ?_
      refine thnF (pt.run _ s4 σ4 H4 _ I4 q4) fun b s5 ⟨H5, I5, q5⟩ => ?_
      -- the turn's end
      have next : ∀ {s9 : Shared} {H9 : Hp}, Inv (X.blk sE HE scope ce fp) ([] ++ pinsAt fp s3.heap) σ4 H9 s9 → Nx H9 →
          ∃ m, m < n ∧ ∃ i H1, Inv (X.blk sE HE scope ce fp) [] (wipe σ (own.map (·.2))) H1 s9 ∧ tn i s9.heap ∧ (∀ b ∈ fp, H1 b = none) ∧ W i m H1 := fun {s9 H9} I9 nx => by
        obtain ⟨m', hm, w'⟩ := hNx H9 nx
        have pinned : ∀ b ∈ fp, ∀ o, s3.heap.get? b = some o → s9.heap.get? b = some o ∧ H9 b = none := fun b hb o e =>
          have z := I9.pin (b, o) (List.mem_append_right _ (List.mem_append_right _ (mem_pinsAt hb e)))
          ⟨z.1, z.2.1⟩
        refine ⟨m', hm, i + 1, H9, (I9.unpinned (pins := [])).weak (by rw [← hw4, wipe_length]) (fun j v e => ?_), T.keep _ _ _ st3 fun b hb o e => (pinned b hb o e).1, fun b hb => ?_, w'⟩
        · rw [← hw4] at e
          exact (wipe_some e).1
        · obtain ⟨o, e, _⟩ := T.obj _ _ st3 b hb
          exact (pinned b hb o e).2
      cases b with
      | false => exact next I5 q5
      | true =>
        refine thnF (pk.run _ s5 σ4 H5 _ I5 q5) fun a6 s6 ⟨y6, H6, I6, r6, q6⟩ => ?_
        refine thnF (pv.run _ s6 σ4 H6 _ I6 q6) fun a7 s7 ⟨y7, H7, I7, r7, H8, pu, nx⟩ => ?_
        exact d_store (X := X.blk sE HE scope ce fp) hu I7 pu r6 r7 fun s8 I8 => next I8 nx
  exact codeAny_compStart_dict loop (T.self X.A 0 _ _ _ stF loop)
/-- as a value -/
theorem pe_dcc {kx vx tg iter : Expr} {ifs : List Expr} {scope : Scope} {own : List (Str × Nat)} {pos : Pos} {t : Bool} {wi : TI} {g : TG} {tt : TT} {tk tv : TE} (hu : X.A.units < cLine) (calm : X.calm = true) (nd : X.N.Nodup) (hi : PI X tg iter wi)
    (ok : BlkOk X.N X.env.scope scope own) (hg : Blk X scope fun X => PG X tg g) (ht : Blk X scope fun X => PTs X ifs tt) (hk : Blk X scope fun X => PE X kx tk) (hv : Blk X scope fun X => PE X vx tv) (hs : ∀ x, foldedSetIterable iter X.env x = pure x) :
    PE X (.DictComp kx vx [⟨tg, iter, ifs, 0⟩] scope pos) (tDcc t wi g tt tk tv (own.map (·.2))) := by
  refine ⟨fun pins s σ H Q I h => ?_⟩
  rw [arm_eval_DictComp]
  refine dcc (t := t) hu calm nd I hi ok hg ht hk hv hs h fun D C s1 m H1 I1 q hn ⟨_, f1, f2, f3, f4, f5⟩ => ⟨m, hn, fun h2 sb => ?_⟩
  exact ⟨.ref D, H1, I1.turned (t' := s1.toks) (fun p o hp e => (sb.2 p hp).trans e) ‹_› f1 f3 f4 f5, rfl, q⟩
/-- stored in a local name, on one line -/
theorem ps_setDcc {i : Nat} {x : Str} {px : Pos} {kx vx tg iter : Expr} {ifs : List Expr} {scope : Scope} {own : List (Str × Nat)} {pos spos : Pos} {t : Bool} {wi : TI} {g : TG} {tt : TT} {tk tv : TE} (hu : X.A.units < cLine) (calm : X.calm = true) (nd : X.N.Nodup)
    (hx : X.N[i]? = some x) (hl : X.env.scope.names.lookup x = some .local) (sw : swapsWith (.DictComp kx vx [⟨tg, iter, ifs, 0⟩] scope pos) (some (.Name x px)) spos.line X.env = pure true) (hi : PI X tg iter wi)
    (ok : BlkOk X.N X.env.scope scope own) (hg : Blk X scope fun X => PG X tg g) (ht : Blk X scope fun X => PTs X ifs tt) (hk : Blk X scope fun X => PE X kx tk) (hv : Blk X scope fun X => PE X vx tv) (hs : ∀ x, foldedSetIterable iter X.env x = pure x) :
    PS X (.Assign [.Name x px] (.DictComp kx vx [⟨tg, iter, ifs, 0⟩] scope pos) spos) (tAsg (tDcc t wi g tt tk tv (own.map (·.2))) (gName i)) := by
  refine ⟨fun pins s σ H De I h => ?_⟩
  rw [exec_Assign_Name_used _ _ _ _ sw]
  refine wpAny_bind (wpAny_standAt (wpAny_bind ?_))
  show wpAny _ X.A (do let _ ← comprehension (.DictComp kx vx [⟨tg, iter, ifs, 0⟩] scope pos) scope X.env (firstIterPos [⟨tg, iter, ifs, 0⟩] pos) newDict false (eval iter X.env) (some (assign (.Name x px) X.env))) _ _ s
  have h : tDcc t wi g tt tk tv (own.map (·.2)) σ H (fun y H1 => gName i y σ H1 De.nx) := h
  refine wpAny_bind (thn (dcc (t := t) (Qf := fun _ s' => SP X pins De .next s') hu calm nd I hi ok hg ht hk hv hs h fun D C s1 m H1 I1 q hn ⟨_, f1, f2, f3, f4, f5⟩ => ?_) fun _ s' hq => wpAny_pure (wpAny_pure hq))
  show wpAny _ _ (assign (.Name x px) X.env (.ref D)) _ _ _
  refine wpAny_assign_Name (store_ok2 (v := V.ref D) I1 nd hx (.inl hl) rfl (fun s2 I2 ⟨a, sb, ha⟩ => ?_) (.inr hl))
  have ne : C ≠ a := ha.elim (fun z => by rw [z]; exact f1) fun z e => f4 x a z e.symm
  exact ⟨m, hn.sameBut sb ne, fun h3 sb3 => ⟨_, H1, I2.turned (t' := s2.toks) (fun p o hp e => (sb3.2 p hp).trans e) ‹_› f1 f3 f4 f5, q⟩⟩
end
end Bide

set_option autoImplicit false
set_option Elab.async false
set_option maxRecDepth 100000
set_option linter.all false
set_option maxHeartbeats 4000000
/-! Dicts: a store, a comprehension's turns, a dict that is locked while it is walked, its keys' walk. -/
namespace Bide
open PySem L2
section
theorem RpK.anyK {K : PySem.W.Frag} {Z : Hp} (k : Key) : ∀ {ks : List (Key × V)} {kvs : List (D × D)}, RpK K Z ks kvs → (ks.any fun kv => decide (kv.1 = k)) = (kvs.any fun kv => sameKey kv.1 (keyD k))
  | _, _, .nil => rfl
  | _, _, .cons h r => by rw [List.any_cons, List.any_cons, RpK.anyK k r, sameKey_kd]
theorem RpK.mapK {K : PySem.W.Frag} {Z : Hp} {v : V} {d : D} (k : Key) (rv : Rp K Z v d) : ∀ {ks : List (Key × V)} {kvs : List (D × D)}, RpK K Z ks kvs → RpK K Z (ks.map (fun kv => if kv.1 = k then (kv.1, v) else kv)) (kvs.map (fun kv => if sameKey kv.1 (keyD k) = true then (kv.1, d) else kv))
  | _, _, .nil => .nil
  | _, _, .cons (k := k') h r => by
    rw [List.map_cons, List.map_cons]
    simp only [sameKey_kd]
    by_cases e : k' = k
    · simp only [e, decide_true, if_true]
      exact .cons rv (RpK.mapK k rv r)
    · simp only [e, decide_false, if_false, Bool.false_eq_true]
      exact .cons h (RpK.mapK k rv r)
theorem RpK.app1 {K : PySem.W.Frag} {Z : Hp} {v : V} {d : D} (k : Key) (rv : Rp K Z v d) : ∀ {ks : List (Key × V)} {kvs : List (D × D)}, RpK K Z ks kvs → RpK K Z (ks ++ [(k, v)]) (kvs ++ [((keyD k), d)])
  | _, _, .nil => .cons rv .nil
  | _, _, .cons h r => .cons h (RpK.app1 k rv r)
theorem RpK.put {K : PySem.W.Frag} {Z : Hp} {v : V} {d : D} (k : Key) (rv : Rp K Z v d) {ks : List (Key × V)} {kvs : List (D × D)} (h : RpK K Z ks kvs) : RpK K Z (putK ks k v) (putKV kvs (keyD k) d) := by
  unfold putK putKV
  rw [h.anyK k]
  split
  · exact h.mapK k rv
  · exact h.app1 k rv
theorem RpT.anyK {K : PySem.W.Frag} {Z : Hp} (k : List Key) : ∀ {ks : List (List Key × V)} {kvs : List (D × D)}, RpT K Z ks kvs → (ks.any fun kv => decide (kv.1 = k)) = (kvs.any fun kv => sameKey kv.1 (.tuple (k.map keyD)))
  | _, _, .nil => rfl
  | _, _, .cons l h r => by rw [List.any_cons, List.any_cons, RpT.anyK k r, sameKey_kt]
theorem RpT.mapK {K : PySem.W.Frag} {Z : Hp} {v : V} {d : D} (k : List Key) (hk : k.length ≤ sizeLine) (rv : Rp K Z v d) : ∀ {ks : List (List Key × V)} {kvs : List (D × D)}, RpT K Z ks kvs → RpT K Z (ks.map (fun kv => if kv.1 = k then (kv.1, v) else kv)) (kvs.map (fun kv => if sameKey kv.1 (.tuple (k.map keyD)) = true then (kv.1, d) else kv))
  | _, _, .nil => .nil
  | _, _, .cons (k := k') l h r => by
    rw [List.map_cons, List.map_cons]
    simp only [sameKey_kt]
    by_cases e : k' = k
    · simp only [e, decide_true, if_true]
      exact .cons hk rv (RpT.mapK k hk rv r)
    · simp only [e, decide_false, if_false, Bool.false_eq_true]
      exact .cons l h (RpT.mapK k hk rv r)
theorem RpT.app1 {K : PySem.W.Frag} {Z : Hp} {v : V} {d : D} (k : List Key) (hk : k.length ≤ sizeLine) (rv : Rp K Z v d) : ∀ {ks : List (List Key × V)} {kvs : List (D × D)}, RpT K Z ks kvs → RpT K Z (ks ++ [(k, v)]) (kvs ++ [((.tuple (k.map keyD)), d)])
  | _, _, .nil => .cons hk rv .nil
  | _, _, .cons l h r => .cons l h (RpT.app1 k hk rv r)
theorem RpT.put {K : PySem.W.Frag} {Z : Hp} {v : V} {d : D} (k : List Key) (hk : k.length ≤ sizeLine) (rv : Rp K Z v d) {ks : List (List Key × V)} {kvs : List (D × D)} (h : RpT K Z ks kvs) : RpT K Z (putK ks k v) (putKV kvs (.tuple (k.map keyD)) d) := by
  unfold putK putKV
  rw [h.anyK k]
  split
  · exact h.mapK k hk rv
  · exact h.app1 k hk rv
theorem putK_len {κ : Type} [DecidableEq κ] {kvs : List (κ × V)} {k : κ} {v : V} (h : kvs.length < sizeLine) : (putK kvs k v).length ≤ sizeLine := by
  unfold putK
  split
  · rw [List.length_map]; omega
  · simp; omega
end
/-- a store into an owned dict -/
theorem OC.putd {K : PySem.W.Frag} {Z H : Hp} {t : Bool} {kvs : List (D × D)} {as : List Addr} {a : Addr} {y v : V} {kd d : D} (oc : OC K Z H as a (.d t kvs)) (s : Same Z H) (rk : Rp K Z y kd) (rv : Rp K Z v d) (ok : keyOkT t kd = true) (hl : kvs.length < sizeLine) :
    as = [a] ∧ ∃ H', DPut H a y v H' ∧ (∀ b, b ≠ a → H' b = H b) ∧ OC K Z H' as a (.d t (putKV kvs kd d)) := by
  cases t with
  | false =>
    obtain ⟨rfl, ks, g1, g2, g3⟩ := oc
    obtain ⟨kq, rfl, rfl⟩ := key_of_flat (.inl rk : RdV K Z H _ _) ok
    have hl' : ks.length < sizeLine := by rw [g3.length]; exact hl
    exact ⟨rfl, _, DPut.k g1 hl', fun b hb => upd_ne hb, rfl, _, upd_same, putK_len hl', g3.put kq rv⟩
  | true =>
    obtain ⟨rfl, ks, g1, g2, g3⟩ := oc
    cases kd <;> (first | (simp [keyOkT] at ok; done) | skip)
    obtain ⟨b, xs, rfl, q1, q2, q3⟩ := RdV.tuple s (.inl rk : RdV K Z H _ _)
    obtain ⟨kq, rfl, rfl⟩ := q3.keys (by simpa [keyOkT] using ok)
    have hl' : ks.length < sizeLine := by rw [g3.length]; exact hl
    exact ⟨rfl, _, DPut.t g1 q1 hl', fun b hb => upd_ne hb, rfl, _, upd_same, putK_len hl', g3.put kq (by rw [List.length_map] at q2; exact q2) rv⟩
theorem putKV_len {kvs : List (D × D)} {x y : D} : (putKV kvs x y).length ≤ kvs.length + 1 := by
  unfold putKV
  split
  · rw [List.length_map]; omega
  · simp
/-- a dict comprehension over a walk -/
theorem dcc_it {J : L2.It} {n : Nat} {G : Hp → Prop} {Y : Nat → Hp → V → Hp → Prop} (wk : Walk J n G Y) {t : Bool} {g : TG} {tt : TT} {tk tv : TE} {vs : List Nat} {σ : L2.St} {H1 : Hp} {D : Addr} {Qd : Hp → Prop} (Pv : Nat → Hp → Prop) (h0 : Pv 0 (upd H1 D (dNew t))) (hG : ∀ i H, i ≤ n → Pv i H → G H)
    (hs : ∀ i x H H', i < n → Pv i H → Y i H x H' → g x (wipe σ vs) H' fun σ2 H2 => wipe σ2 vs = wipe σ vs ∧ tt σ2 H2 fun b H3 =>
      match b with
      | true => tk σ2 H3 fun y H4 => tv σ2 H4 fun z H5 => ∃ H6, DPut H5 D y z H6 ∧ Pv (i + 1) H6
      | false => Pv (i + 1) H3) (hd : ∀ H, Pv n H → Qd H) :
    ∃ W : Nat → Nat → Hp → Prop, (∃ m, W 0 m (upd H1 D (dNew t))) ∧ ∀ i m H, W i m H → (J.stop i H ∧ Qd H) ∨
      (J.go i H ∧ ∃ Nx : Hp → Prop, (∀ H', Nx H' → ∃ m', m' < m ∧ W (i + 1) m' H') ∧ ∀ x H', J.yld i H x H' →
        g x (wipe σ vs) H' fun σ2 H2 => wipe σ2 vs = wipe σ vs ∧ tt σ2 H2 fun b H3 =>
          match b with
          | true => tk σ2 H3 fun y H4 => tv σ2 H4 fun z H5 => ∃ H6, DPut H5 D y z H6 ∧ Nx H6
          | false => Nx H3) := by
  refine ⟨fun i m H => m = n - i ∧ i ≤ n ∧ Pv i H, ⟨n, rfl, Nat.zero_le _, h0⟩, ?_⟩
  rintro i m H ⟨rfl, hi, p⟩
  have q := hG i H hi p
  rcases Nat.lt_or_ge i n with hlt | hge
  · exact .inr ⟨wk.goes i H hlt q, Pv (i + 1), fun H' p' => ⟨n - (i + 1), by omega, rfl, hlt, p'⟩, fun x H' y => hs i x H H' hlt p (wk.yields i H x H' hlt q y)⟩
  · obtain rfl : i = n := by omega
    exact .inl ⟨wk.stops H q, hd H p⟩
theorem dcL_wiped {own tg : List Nat} {tup kt : Bool} {t : Ev → R Bool} {k v : Ev → R RV} : ∀ {ds : List D} {acc : List (D × D)} {ev : Ev} {r : List (D × D)} {e : Ev}, dcL own tg tup kt t k v ds acc ev = .ok r e → ∃ ev0, wipeE ev own = some ev0
  | [], acc, ev, r, e, h => by
    simp only [dcL] at h
    split at h
    · rename_i h1; exact ⟨_, h1⟩
    · cases h
  | d :: ds, acc, ev, r, e, h => by
    simp only [dcL] at h
    split at h
    · rename_i h1; exact ⟨_, h1⟩
    · cases h
section
variable {w : Wd} {σ : L2.St} {H Z H1 Z1 : Hp} {ev evs : Ev} {A : Nat → List Addr}
/-- the turns of a dict comprehension -/
theorem dc_turns {kt : Bool} {own tg : List Nat} {tup : Bool} {cd : C} {k v : E} {ds : List D} {kvs : List (D × D)} {e2 : Ev} {J : L2.It} {Q : VK} (ho : ∀ i ∈ tg, i ∈ own) (wk : WalkOk w.K J Z ds) (R : RS w.K w.c σ H Z ev A) (hw : wipeE ev own = some evs)
    (hl : dcL own tg tup kt (evC w.cf cd) (evE w.cf k) (evE w.cf v) ds [] ev = .ok kvs e2)
    (hQ : Out w σ Z (.ok (.f (.d kt kvs)) (unwipe ev e2 own)) fun r ev' H' Z' A' => ∀ x, RR w.K w.c σ H' Z' ev' A' x r → Q x H') :
    ∀ dA, H dA = none → ∃ W : Nat → Nat → Hp → Prop, (∃ m, W 0 m (upd H dA (dNew kt))) ∧ ∀ i m H, W i m H → (J.stop i H ∧ Q (.ref dA) H) ∨
      (J.go i H ∧ ∃ Nx : Hp → Prop, (∀ H', Nx H' → ∃ m', m' < m ∧ W (i + 1) m' H') ∧ ∀ x H', J.yld i H x H' →
        gTg w.K tup tg x (wipe σ own) H' fun σ2 H2 => wipe σ2 own = wipe σ own ∧ anyC w cd σ2 H2 fun b H3 =>
          match b with
          | true => anyE w k σ2 H3 fun y H4 => anyE w v σ2 H4 fun z H5 => ∃ H6, DPut H5 dA y z H6 ∧ Nx H6
          | false => Nx H3) := by
  intro dA hD
  obtain ⟨hsz, G, Y, wlk, hG, hY⟩ := wk
  obtain ⟨n1, n2, n3, n4⟩ := R.notin hD
  refine dcc_it wlk (fun i H' => ∃ (acc : List (D × D)) (ev' ev0 : Ev) (Z' : Hp) (A' : Nat → List Addr), Same Z Z' ∧ wipeE ev' own = some ev0 ∧ RS w.K w.c (wipe σ own) H' Z' ev0 A' ∧ OC w.K Z' H' [dA] dA (.d kt acc) ∧ Z' dA = none ∧
      (∀ i, dA ∉ A' i) ∧ acc.length ≤ i ∧ dcL own tg tup kt (evC w.cf cd) (evE w.cf k) (evE w.cf v) (ds.drop i) acc ev' = .ok kvs e2)
    ⟨[], ev, evs, Z, A, Same.refl _, hw, (R.wiped hw).fresh hD, ?_, n1, n4, Nat.le_refl _, hl⟩ (fun i H' _ h => ?_) (fun i x H' H'' hi h y => ?_) (fun H' h => ?_)
  · cases kt
    · exact ⟨rfl, [], upd_same, Nat.zero_le _, .nil⟩
    · exact ⟨rfl, [], upd_same, Nat.zero_le _, .nil⟩
  · obtain ⟨_, _, _, Z', _, s, _, R', _⟩ := h
    exact hG Z' H' s R'.sub
  · obtain ⟨acc, ev', ev0, Z', A', s, hw', R', oc, zd, ad, la, hl'⟩ := h
    obtain ⟨Z2, d, hdi, g, rp⟩ := hY i H' x H'' Z' hi y s R'.sub
    have R2 := R'.ext g.zz g.sub g.zf g.hh
    have oc2 : OC w.K Z2 H'' [dA] dA (.d kt acc) := oc.mono g.zz fun b _ u h => g.hh b u h
    obtain ⟨uD, hd2⟩ : ∃ u, H'' dA = some u := by
      cases q : H'' dA with
      | none => exact absurd q (oc2.alive dA (by simp))
      | some u => exact ⟨u, rfl⟩
    have zd2 : Z2 dA = none := by
      cases q : Z2 dA with
      | none => rfl
      | some u =>
        rcases g.zf dA u q with z | z | ⟨ys, rfl⟩
        · rw [zd] at z; cases z
        · exact absurd z (oc.alive dA (by simp))
        · exact absurd (g.sub dA _ q) (oc2.lstLike dA (by simp) ys)
    have Rh := R2.hold (as := [dA]) (fun p hp => by
      cases List.mem_singleton.mp hp
      exact ⟨by rw [hd2]; simp, zd2, ad⟩) oc2.lstLike
    have un : ∀ {σ' : L2.St} {H3 Z3 : Hp} {ev3 : Ev} {A3 : Nat → List Addr}, RS w.K (w.c.hold H'' [dA]) σ' H3 Z3 ev3 A3 → Same Z2 Z3 → RS w.K w.c σ' H3 Z3 ev3 A3 ∧ OC w.K Z3 H3 [dA] dA (.d kt acc) ∧ Z3 dA = none ∧ ∀ i, dA ∉ A3 i := fun R3 s3 => by
      obtain ⟨q1, q2⟩ := R3.unhold fun p hp => by cases List.mem_singleton.mp hp; exact n3
      obtain ⟨k1, k2, k3⟩ := q2 dA (by simp) _ hd2
      exact ⟨q1, oc2.mono s3 fun b hb u h => by
        cases List.mem_singleton.mp hb
        rw [hd2] at h; cases h; exact k1, k2, k3⟩
    have hdr : ds.drop i = d :: ds.drop (i + 1) := by
      have := List.getElem?_eq_some_iff.mp hdi
      rw [← this.2]
      exact List.drop_eq_getElem_cons this.1
    rw [hdr] at hl'
    simp only [dcL, hw'] at hl'
    split at hl'
    · rename_i ev1 hb
      refine RS.bindTg Rh rp hb fun vs A1 R3 => ?_
      have hσ : wipe (setsS (wipe σ own) tg vs) own = wipe σ own := by rw [setsS_wipe ho, wipe_wipe]
      refine ⟨hσ, w.c.hold H'' [dA], ev1, Z2, A1, R3, ?_⟩
      show Out (w.blk (w.c.hold H'' [dA])) _ Z2 (evC w.cf cd ev1) _
      cases hc : evC w.cf cd ev1 with
      | bad => rw [hc] at hl'; cases hl'
      | ex x' e' => rw [hc] at hl'; cases hl'
      | ok b ev2 =>
        rw [hc] at hl'
        intro H3 Z3 A3 s3 R4
        cases b with
        | false =>
          obtain ⟨ev0', hw2⟩ := dcL_wiped hl'
          obtain ⟨R5, k1, k2, k3⟩ := un R4 s3
          have R6 := R5.wiped hw2
          rw [hσ] at R6
          exact ⟨acc, ev2, ev0', Z3, A3, (s.trans g.zz).trans s3, hw2, R6, k1, k2, k3, by omega, hl'⟩
        | true =>
          refine ⟨w.c.hold H'' [dA], ev2, Z3, A3, R4, ?_⟩
          show Out (w.blk (w.c.hold H'' [dA])) _ Z3 (evE w.cf k ev2) _
          simp only at hl'
          cases he : evE w.cf k ev2 with
          | bad => rw [he] at hl'; cases hl'
          | ex x' e' => rw [he] at hl'; cases hl'
          | ok r ev3 =>
            rw [he] at hl'
            intro H4 Z4 A4 s4 R5 y' rr
            obtain ⟨Z5, s5, R6, rr'⟩ := R5.stl rr
            simp only at hl'
            split at hl'
            · rename_i x' ev4 hx
              obtain ⟨Z6, A6, s6, R7, rp'⟩ := R6.esc rr' hx
              refine ⟨w.c.hold H'' [dA], ev4, Z6, A6, R7, ?_⟩
              show Out (w.blk (w.c.hold H'' [dA])) _ Z6 (evE w.cf v ev4) _
              cases hv : evE w.cf v ev4 with
              | bad => rw [hv] at hl'; cases hl'
              | ex x' e' => rw [hv] at hl'; cases hl'
              | ok q ev5 =>
                rw [hv] at hl'
                intro H7 Z7 A7 s7 R8 z' rz
                obtain ⟨Z8, s8, R9, rz'⟩ := R8.stl rz
                simp only at hl'
                split at hl'
                · rename_i yv ev6 hy
                  obtain ⟨Z9, A9, s9, R10, rq'⟩ := R9.esc rz' hy
                  split at hl'
                  · rename_i hok
                    have sz : Same Z2 Z9 := (((((s3.trans s4).trans s5).trans s6).trans s7).trans s8).trans s9
                    obtain ⟨R11, k1, k2, k3⟩ := un R10 sz
                    obtain ⟨ev0', hw2⟩ := dcL_wiped hl'
                    have R12 := R11.wiped hw2
                    rw [hσ] at R12
                    obtain ⟨_, H8, pu, keep, oc8⟩ := k1.putd R12.sub (rp'.mono ((s7.trans s8).trans s9)) rq' hok (by omega)
                    refine ⟨H8, pu, putKV acc x' yv, ev6, ev0', Z9, A9, (s.trans g.zz).trans sz, hw2, ?_, oc8, k2, k3, by have := putKV_len (kvs := acc) (x := x') (y := yv); omega, hl'⟩
                    obtain ⟨u8, hu8⟩ : ∃ u, H8 dA = some u := by
                      cases q : H8 dA with
                      | none => exact absurd q (oc8.alive dA (by simp))
                      | some u => exact ⟨u, rfl⟩
                    have eH : H8 = upd H7 dA u8 := by
                      funext p
                      by_cases hp : p = dA
                      · rw [hp, upd_same]; exact hu8
                      · rw [upd_ne hp]; exact keep p hp
                    rw [eH]
                    exact R12.aside k2 k3 n2 n3
                  · cases hl'
                · cases hl'
            · cases hl'
    · cases hl'
  · obtain ⟨acc, ev', ev0, Z', A', s, hw', R', oc, zd, ad, la, hl'⟩ := h
    rw [List.drop_eq_nil_of_le (Nat.le_refl _)] at hl'
    simp only [dcL, hw'] at hl'
    cases hl'
    exact hQ H' Z' A' s (R.unwiped hw R' hw' s) (.ref dA) ⟨dA, [dA], rfl, oc, by simp, fun b hb => by
      cases List.mem_singleton.mp hb
      exact ⟨zd, n2, n3, ad⟩⟩
end
/-! ### a dict is locked -/
/-- the same dict, locked or not -/
def Lk (o o' : HO) : Prop := (∃ ks, (o = .dK ks ∨ ∃ q, o = .frz q (.dK ks)) ∧ (o' = .dK ks ∨ ∃ q, o' = .frz q (.dK ks))) ∨ ∃ ks, (o = .dT ks ∨ ∃ q, o = .frz q (.dT ks)) ∧ (o' = .dT ks ∨ ∃ q, o' = .frz q (.dT ks))
theorem Lk.symm {o o' : HO} (l : Lk o o') : Lk o' o := by
  rcases l with ⟨ks, a, b⟩ | ⟨ks, a, b⟩
  · exact .inl ⟨ks, b, a⟩
  · exact .inr ⟨ks, b, a⟩
theorem Lk.notTup {o o' : HO} (l : Lk o o') : ¬ HoTup o := by
  rintro ⟨xs, rfl⟩
  rcases l with ⟨ks, a | ⟨q, a⟩, _⟩ | ⟨ks, a | ⟨q, a⟩, _⟩ <;> cases a
/-- another object at d, where there is one -/
def chg (f : Hp) (d : Addr) (u : HO) : Hp := fun p => if p = d then (f d).map fun _ => u else f p
section
variable {K : PySem.W.Frag} {Z H Z' H' f : Hp} {d : Addr} {o o' : HO}
theorem chg_at : chg f d o d = (f d).map fun _ => o := if_pos rfl
theorem chg_ne {p : Addr} (h : p ≠ d) : chg f d o p = f p := if_neg h
theorem chg_upd {u : HO} (h : f d = some u) : chg f d o = upd f d o := by
  funext p
  by_cases hp : p = d
  · rw [hp, chg_at, upd_same, h]; rfl
  · rw [chg_ne hp, upd_ne hp]
theorem chg_same (s : Same Z Z') : Same (chg Z d o) (chg Z' d o) := fun p u e => by
  by_cases hp : p = d
  · rw [hp, chg_at] at e ⊢
    cases q : Z d with
    | none => rw [q] at e; cases e
    | some z => rw [q] at e; rw [s d z q]; exact e
  · rw [chg_ne hp] at e ⊢; exact s p u e
theorem chg_none {p : Addr} (h : f p = none) : chg f d o p = none := by
  by_cases hp : p = d
  · rw [hp] at h ⊢; rw [chg_at, h]; rfl
  · rw [chg_ne hp]; exact h
theorem none_chg {p : Addr} (h : chg f d o p = none) : f p = none := by
  by_cases hp : p = d
  · rw [hp, chg_at] at h
    rw [hp]
    cases q : f d with
    | none => rfl
    | some z => rw [q] at h; cases h
  · rw [chg_ne hp] at h; exact h
theorem rd_lk {a : Addr} {u : HO} (l : Lk o o') (h : Z d = some o) (hu : (∃ ks, u = .dK ks) ∨ ∃ ks, u = .dT ks) (r : Rd Z a u) : Rd (chg Z d o') a u := by
  by_cases ha : a = d
  · subst ha
    have e : chg Z a o' a = some o' := by rw [chg_at, h]; rfl
    rcases r with r | ⟨q, r⟩ <;> (rw [h] at r; cases r) <;> rcases hu with ⟨ks, rfl⟩ | ⟨ks, rfl⟩ <;> rcases l with ⟨ks', x | ⟨q', x⟩, y | ⟨q2, y⟩⟩ | ⟨ks', x | ⟨q', x⟩, y | ⟨q2, y⟩⟩ <;> cases x <;> cases y <;> first | exact .inl e | exact .inr ⟨_, e⟩
  · rcases r with r | ⟨q, r⟩
    · exact .inl (by rw [chg_ne ha]; exact r)
    · exact .inr ⟨q, by rw [chg_ne ha]; exact r⟩
theorem lk_ne {a : Addr} {u : HO} (l : Lk o o') (h : Z d = some o) (e : Z a = some u) (n1 : ∀ ks, u ≠ .dK ks) (n2 : ∀ ks, u ≠ .dT ks) (n3 : ∀ q ks, u ≠ .frz q (.dK ks)) (n4 : ∀ q ks, u ≠ .frz q (.dT ks)) : a ≠ d := fun ha => by
  subst ha
  rw [h] at e
  cases e
  rcases l with ⟨ks, a | ⟨q, a⟩, _⟩ | ⟨ks, a | ⟨q, a⟩, _⟩
  · exact n1 _ a
  · exact n3 _ _ a
  · exact n2 _ a
  · exact n4 _ _ a
theorem sqL_lk {a : Addr} {xs : List V} (l : Lk o o') (h : Z d = some o) (q : SqL K Z a xs) : SqL K (chg Z d o') a xs := by
  rcases q with (q | ⟨z, q⟩) | q
  · exact .inl (.inl (by rw [chg_ne (lk_ne l h q (fun _ => nofun) (fun _ => nofun) (fun _ _ => nofun) (fun _ _ => nofun))]; exact q))
  · exact .inl (.inr ⟨z, by rw [chg_ne (lk_ne l h q (fun _ => nofun) (fun _ => nofun) (fun _ _ => by simp) (fun _ _ => by simp))]; exact q⟩)
  · exact .inr q
mutual
theorem Rp.lk (l : Lk o o') (h : Z d = some o) : ∀ {v : V} {x : D}, Rp K Z v x → Rp K (chg Z d o') v x
  | _, _, .non => .non
  | _, _, .bl b => .bl b
  | _, _, .int i => .int i
  | _, _, .str x => .str x
  | _, _, .lst g n r => .lst (by rw [chg_ne (lk_ne l h g (fun _ => nofun) (fun _ => nofun) (fun _ _ => nofun) (fun _ _ => nofun))]; exact g) n (Rps.lk l h r)
  | _, _, .scr g n r => .scr (sqL_lk l h g) n (Rps.lk l h r)
  | _, _, .tup g n r => .tup (by rw [chg_ne (lk_ne l h g (fun _ => nofun) (fun _ => nofun) (fun _ _ => nofun) (fun _ _ => nofun))]; exact g) n (Rps.lk l h r)
  | _, _, .ktup g n r => .ktup g n (Rps.lk l h r)
  | _, _, .dk g n r => .dk (rd_lk l h (.inl ⟨_, rfl⟩) g) n (RpK.lk l h r)
  | _, _, .dt g n r => .dt (rd_lk l h (.inr ⟨_, rfl⟩) g) n (RpT.lk l h r)
theorem Rps.lk (l : Lk o o') (h : Z d = some o) : ∀ {v : List V} {x : List D}, Rps K Z v x → Rps K (chg Z d o') v x
  | _, _, .nil => .nil
  | _, _, .cons a r => .cons (Rp.lk l h a) (Rps.lk l h r)
theorem RpK.lk (l : Lk o o') (h : Z d = some o) : ∀ {v : List (Key × V)} {x : List (D × D)}, RpK K Z v x → RpK K (chg Z d o') v x
  | _, _, .nil => .nil
  | _, _, .cons a r => .cons (Rp.lk l h a) (RpK.lk l h r)
theorem RpT.lk (l : Lk o o') (h : Z d = some o) : ∀ {v : List (List Key × V)} {x : List (D × D)}, RpT K Z v x → RpT K (chg Z d o') v x
  | _, _, .nil => .nil
  | _, _, .cons n a r => .cons n (Rp.lk l h a) (RpT.lk l h r)
end
theorem OC.lk {as : List Addr} {a : Addr} {v : OV} (l : Lk o o') (h : Z d = some o) (q : OC K Z H as a v) (k : ∀ b ∈ as, H' b = H b) : OC K (chg Z d o') H' as a v := by
  cases v with
  | l ds =>
    obtain ⟨rfl, xs, h1, h2, h3⟩ := q
    exact ⟨rfl, xs, by rw [k _ (by simp)]; exact h1, h2, h3.lk l h⟩
  | d t kvs =>
    cases t
    · obtain ⟨rfl, xs, h1, h2, h3⟩ := q
      exact ⟨rfl, xs, by rw [k _ (by simp)]; exact h1, h2, h3.lk l h⟩
    · obtain ⟨rfl, xs, h1, h2, h3⟩ := q
      exact ⟨rfl, xs, by rw [k _ (by simp)]; exact h1, h2, h3.lk l h⟩
  | ll dss =>
    obtain ⟨bs, rfl, h1, h2, hl, hr⟩ := q
    refine ⟨bs, rfl, by rw [k _ (by simp)]; exact h1, h2, hl, fun i b ds e1 e2 => ?_⟩
    obtain ⟨xs, q1, q2, q3⟩ := hr i b ds e1 e2
    exact ⟨xs, by rw [k b (by simp [List.mem_of_getElem? e1])]; exact q1, q2, q3.lk l h⟩
end
def En.lk (c : En) (d : Addr) (u : HO) : En := { c with H := chg c.H d u, Z := chg c.Z d u }
section
variable {K : PySem.W.Frag} {c : En} {σ : L2.St} {H Z : Hp} {ev : Ev} {A : Nat → List Addr} {d : Addr} {o o' : HO}
theorem RS.swap (R : RS K c σ H Z ev A) (l : Lk o o') (h : Z d = some o) : RS K (c.lk d o') σ (upd H d o') (chg Z d o') ev A := by
  have nd : ∀ {p : Addr}, Z p = none → p ≠ d := fun z e => by rw [e, h] at z; cases z
  have zd : chg Z d o' d = some o' := by rw [chg_at, h]; rfl
  exact {
    len := R.len
    sub := fun p u e => by
      by_cases hp : p = d
      · rw [hp] at e ⊢; rw [zd] at e; rw [upd_same]; exact e
      · rw [chg_ne hp] at e; rw [upd_ne hp]; exact R.sub p u e
    z0 := chg_same R.z0
    zf := fun p u e => by
      by_cases hp : p = d
      · rw [hp] at e ⊢
        rcases R.zf d o h with q | q | q
        · refine .inl ?_
          rw [zd] at e
          show chg c.Z d o' d = some u
          rw [chg_at, q]; exact e
        · exact .inr (.inl (chg_none q))
        · exact absurd q l.notTup
      · rw [chg_ne hp] at e
        rcases R.zf p u e with q | q | q
        · refine .inl ?_
          show chg c.Z d o' p = some u
          rw [chg_ne hp]; exact q
        · exact .inr (.inl (chg_none q))
        · exact .inr (.inr q)
    fr := fun p u e n => by
      have e : chg c.H d o' p = some u := e
      by_cases hp : p = d
      · rw [hp] at e ⊢
        rw [chg_at] at e
        rw [upd_same]
        cases q : c.H d with
        | none => rw [q] at e; cases e
        | some z => rw [q] at e; exact e
      · rw [chg_ne hp] at e; rw [upd_ne hp]; exact R.fr p u e n
    sl := fun i sv e => by
      have q := R.sl i sv e
      have k : ∀ b ∈ A i, upd H d o' b = H b := fun b hb => upd_ne (nd (R.zo i b hb))
      cases sv with
      | no => exact q
      | sh x => obtain ⟨q0, v, q1, q2⟩ := q; exact ⟨q0, v, q1, q2.lk l h⟩
      | ow x => obtain ⟨a, q1, q2⟩ := q; exact ⟨a, q1, q2.lk l h k⟩
      | io x => obtain ⟨a, q1, q2⟩ := q; exact ⟨a, q1, q2.lk l h k⟩
    out := R.out
    zo := fun i a ha => chg_none (R.zo i a ha)
    ao := fun i a ha => by
      rcases R.ao i a ha with q | q
      · exact .inl q
      · exact .inr (chg_none q)
    dis := R.dis
    nod := R.nod
    io := R.io
    oi := R.oi
    pf := fun p u e => by
      obtain ⟨h1, h2, h3⟩ := R.pf p u e
      exact ⟨by rw [upd_ne (nd h2)]; exact h1, chg_none h2, h3⟩
    ft := R.ft }
theorem RR.swap {x : V} {r : RV} (l : Lk o o') (h : Z d = some o) (q : RR K c σ H Z ev A x r) : RR K (c.lk d o') σ (upd H d o') (chg Z d o') ev A x r := by
  cases r with
  | v y => exact Rp.lk l h q
  | s i => exact q
  | f v =>
    obtain ⟨a, as, e, oc, n, hb⟩ := q
    have nd : ∀ {p : Addr}, Z p = none → p ≠ d := fun z e => by rw [e, h] at z; cases z
    exact ⟨a, as, e, oc.lk l h fun b hm => upd_ne (nd (hb b hm).1), n, fun b hm => ⟨chg_none (hb b hm).1, chg_none (hb b hm).2.1, (hb b hm).2.2.1, (hb b hm).2.2.2⟩⟩
theorem RS.lkBack (R : RS K c σ H Z ev A) (h : Z d = some o) : (c.lk d o').lk d o = c := by
  have eZ : chg (chg c.Z d o') d o = c.Z := by
    funext p
    by_cases hp : p = d
    · rw [hp, chg_at, chg_at]
      cases q : c.Z d with
      | none => rfl
      | some z =>
        have := R.z0 d z q
        rw [h] at this
        cases this
        rfl
    · rw [chg_ne hp, chg_ne hp]
  have eH : chg (chg c.H d o') d o = c.H := by
    funext p
    by_cases hp : p = d
    · rw [hp, chg_at, chg_at]
      cases q : c.H d with
      | none => rfl
      | some z =>
        have := R.fr d z q fun i hi => by
          have ha := (R.io i d hi).1
          have := R.zo i d (by rw [ha]; simp)
          rw [h] at this
          cases this
        rw [R.sub d o h] at this
        cases this
        rfl
    · rw [chg_ne hp, chg_ne hp]
  show ({ c with H := chg (chg c.H d o') d o, Z := chg (chg c.Z d o') d o } : En) = c
  rw [eZ, eH]
end
/-! ### the walk of a dict's keys -/
section
variable {K : PySem.W.Frag} {Z0 : Hp} {d : Addr} {q : Obj}
theorem RpK.at : ∀ {ks : List (Key × V)} {kvs : List (D × D)} {i : Nat} {k : Key} {v : V}, RpK K Z0 ks kvs → ks[i]? = some (k, v) → (kvs.map (·.1))[i]? = some (keyD k)
  | _, _, _, _, _, .nil, e => by simp at e
  | _, _, 0, _, _, .cons h r, e => by simp at e; obtain ⟨rfl, rfl⟩ := e; rfl
  | _, _, i + 1, _, _, .cons h r, e => by
    have := RpK.at (i := i) r (by simpa using e)
    simpa using this
theorem RpT.at : ∀ {ks : List (List Key × V)} {kvs : List (D × D)} {i : Nat} {k : List Key} {v : V}, RpT K Z0 ks kvs → ks[i]? = some (k, v) → (kvs.map (·.1))[i]? = some (.tuple (k.map keyD)) ∧ k.length ≤ sizeLine
  | _, _, _, _, _, .nil, e => by simp at e
  | _, _, 0, _, _, .cons l h r, e => by simp at e; obtain ⟨rfl, rfl⟩ := e; exact ⟨rfl, l⟩
  | _, _, i + 1, _, _, .cons l h r, e => by
    have := RpT.at (i := i) r (by simpa using e)
    simpa using this
theorem keys_rps {Z : Hp} : ∀ (k : List Key), Rps K Z (k.map kV) (k.map keyD)
  | [] => .nil
  | .inl i :: r => .cons (.int i) (keys_rps r)
  | .inr x :: r => .cons (.str x) (keys_rps r)
theorem walkOk_keys {ks : List (Key × V)} {kvs : List (D × D)} (l : ks.length ≤ sizeLine) (h : Z0 d = some (.frz q (.dK ks))) (r : RpK K Z0 ks kvs) : WalkOk K (Itk d q ks) Z0 (kvs.map (·.1)) := by
  have e : (kvs.map (·.1)).length = ks.length := by rw [List.length_map, r.length]
  refine ⟨by rw [e]; exact l, _, _, by rw [e]; exact walk_keys, fun Z H s1 s2 => s2 _ _ (s1 _ _ h), fun i H x H' Z _ y s1 s2 => ?_⟩
  obtain ⟨rfl, k, v, hx, rfl⟩ := y
  exact ⟨Z, keyD k, r.at hx, Grow.refl s2, by cases k with
    | inl i => exact .int i
    | inr s => exact .str s⟩
theorem walkOk_keysT {ks : List (List Key × V)} {kvs : List (D × D)} (l : ks.length ≤ sizeLine) (h : Z0 d = some (.frz q (.dT ks))) (r : RpT K Z0 ks kvs) : WalkOk K (Itkt d q ks) Z0 (kvs.map (·.1)) := by
  have e : (kvs.map (·.1)).length = ks.length := by rw [List.length_map, r.length]
  refine ⟨by rw [e]; exact l, _, _, by rw [e]; exact walk_keysT, fun Z H s1 s2 => s2 _ _ (s1 _ _ h), fun i H x H' Z _ y s1 s2 => ?_⟩
  obtain ⟨rfl, k, v, p, hx, rfl, hp⟩ := y
  obtain ⟨g1, g2⟩ := r.at hx
  refine ⟨upd Z p (.tup (k.map kV)), .tuple (k.map keyD), g1, ⟨fun b u e => ?_, fun b u e => ?_, fun b u e => ?_, Same.refl _⟩, .tup upd_same (by rw [List.length_map]; exact g2) (keys_rps k)⟩
  · by_cases hb : b = p
    · rw [hb] at e ⊢
      rw [upd_same, ← hp, s2 p u e]
    · rw [upd_ne hb]; exact e
  · by_cases hb : b = p
    · rw [hb] at e ⊢
      rw [upd_same] at e
      rw [hp]; exact e
    · rw [upd_ne hb] at e; exact s2 b u e
  · by_cases hb : b = p
    · rw [hb, upd_same] at e
      cases e
      exact .inr (.inr ⟨_, rfl⟩)
    · rw [upd_ne hb] at e; exact .inl e
end
end Bide

set_option autoImplicit false
set_option Elab.async false
set_option maxRecDepth 100000
set_option linter.all false
set_option maxHeartbeats 4000000
/-! The soundness of expressions: what the small language's evaluation says, the text of Python does. -/
namespace Bide
open PySem L2
theorem XOk.units {w : Wd} {k : Nat} {N : List Str} {fb : Str → Bool} {X : Cx} (h : XOk w k N fb X) : X.A.units + 65 < cLine := by
  have := h.room.un
  omega
theorem XOk.blk {w : Wd} {k : Nat} {N : List Str} {fb : Str → Bool} {X : Cx} (h : XOk w k N fb X) (c : En) {s : Shared} {H : Hp} {scope : Scope} {cenv : Env} {fp : List Addr} :
    XOk (w.blk c) k N (blkFb scope) (X.blk s H scope cenv fp) :=
  ⟨h.K, h.N, h.calm, h.nd, h.room, h.fns, h.gls, h.blt, fun _ z => z⟩
theorem takesF {X : Cx} : Takes X (fun _ _ _ _ => False) := fun _ _ ⟨_, _, _, _, _, _, _, _, _, _, _, _, _, _, _, _, z⟩ => z.elim
section
variable {X : Cx} {x : Str} {p pos : Pos} {es : List Expr} {e : Expr} {t : TA}
theorem pe_blt (f : Blt) (hc : X.calm = true) (hu : X.A.units + 65 < cLine) (hx : x = sN f.nm) (hg : Gl X x) (hm : X.mg x = none) (ha : PA X (e :: es) t) (he : starEach (e :: es) X.env = (false, eval e X.env) :: starEach es X.env)
    (hpl : (backTo pos (starEach es X.env)).any (·.1) = false) : PE X (.Call (.Name x p) (e :: es) [] pos) (tCB (bOf X.K (Bide.blt f)) t) := by
  have r := blt_ok hc hu f
  subst hx
  cases f
  case len => exact pe_callB r hg hm (by decide +kernel) ha (by decide +kernel) (by decide +kernel) he hpl
  case abs => exact pe_callB r hg hm (by decide +kernel) ha (by decide +kernel) (by decide +kernel) he hpl
  case int => exact pe_callTy r hg hm (by decide +kernel) ha (by decide +kernel) (by decide +kernel) he hpl
  case sum => exact pe_callB r hg hm (by decide +kernel) ha (by decide +kernel) (by decide +kernel) he hpl
  case all => exact pe_callB r hg hm (by decide +kernel) ha (by decide +kernel) (by decide +kernel) he hpl
  case any => exact pe_callB r hg hm (by decide +kernel) ha (by decide +kernel) (by decide +kernel) he hpl
  case max1 => exact pe_callB r hg hm (by decide +kernel) ha (by decide +kernel) (by decide +kernel) he hpl
  case min1 => exact pe_callB r hg hm (by decide +kernel) ha (by decide +kernel) (by decide +kernel) he hpl
  case max2 => exact pe_callB r hg hm (by decide +kernel) ha (by decide +kernel) (by decide +kernel) he hpl
  case min2 => exact pe_callB r hg hm (by decide +kernel) ha (by decide +kernel) (by decide +kernel) he hpl
  case tuple => exact pe_callTy r hg hm (by decide +kernel) ha (by decide +kernel) (by decide +kernel) he hpl
  case list => exact pe_callTy r hg hm (by decide +kernel) ha (by decide +kernel) (by decide +kernel) he hpl
  case sorted => exact pe_callB r hg hm (by decide +kernel) ha (by decide +kernel) (by decide +kernel) he hpl
theorem blt_mem (f : Blt) : f.nm ∈ bltNames := by cases f <;> decide
theorem ty_mem (f : Ty) : f.nm ∈ bltNames := by cases f <;> decide
theorem isi_ok {K : PySem.W.Frag} {Z H : Hp} {y : V} {d : D} {ty : Ty} {b : Bool} (s : Same Z H) (h : RdV K Z H y d) (e : isTy ty d = some b) : ∃ t, TyX K H y t ∧ PySem.W.kitOne K t (.type ty.nm) = some b := by
  cases d with
  | none => cases h.none; exact ⟨_, .base .non, by cases ty <;> cases e <;> exact kit_ty (by decide +kernel)⟩
  | bool v => cases h.bool; exact ⟨_, .base (.bl _), by cases ty <;> cases e <;> exact kit_ty (by decide +kernel)⟩
  | int v => cases h.int; exact ⟨_, .base (.int _), by cases ty <;> cases e <;> exact kit_ty (by decide +kernel)⟩
  | str v => cases h.str; exact ⟨_, .base (.str _), by cases ty <;> cases e <;> exact kit_ty (by decide +kernel)⟩
  | list v =>
    obtain ⟨a, xs, rfl, h1, _⟩ := h.list s
    exact ⟨_, .base (.lst h1), by cases ty <;> cases e <;> exact kit_ty (by decide +kernel)⟩
  | tuple v =>
    obtain ⟨a, xs, rfl, h1, _⟩ := h.tuple s
    exact ⟨_, .base (.tup h1), by cases ty <;> cases e <;> exact kit_ty (by decide +kernel)⟩
  | dict v =>
    have key : ∃ kvs, v = (.bool false, .none) :: kvs ∧ b = false := by
      rcases v with _ | ⟨⟨k, u⟩, kvs⟩
      · cases ty <;> (simp [isTy] at e)
      · cases k <;> cases u <;> first | (cases ty <;> (simp [isTy] at e); done) | skip
        rename_i bb
        cases bb with
        | false => exact ⟨kvs, rfl, by cases ty <;> (simp [isTy] at e; exact e)⟩
        | true => cases ty <;> (simp [isTy] at e)
    obtain ⟨kvs, rfl, rfl⟩ := key
    obtain ⟨a, ks, rfl, h1, _⟩ := h.dict s
    rcases h1 with h1 | ⟨o, h1⟩
    · exact ⟨_, .base (.dK h1), by cases ty <;> exact kit_ty (by decide +kernel)⟩
    · exact ⟨_, .fDict h1, by cases ty <;> exact kit_ty (by decide +kernel)⟩
end
theorem fold_of {py : Expr} {env : Env} (h : noStar py = true) (x : Value) : foldedSetIterable py env x = pure x := by
  cases py <;> first | rfl | (simp [noStar] at h)
theorem plain_of {py : Expr} {env : Env} (h : plainPy py = true) (whole : Sem Value) : isTrue py env whole = (do let v ← whole; standAt py.pos; holding [v] (truthy v)) := by
  cases py <;> first | rfl | (simp [plainPy] at h)
theorem rd_slot {X : Cx} {N : List Str} {i : Nat} {x : Str} {pos : Pos} (hN : X.N = N) (h : rdSlot N X.env.scope i x = true) : PE X (.Name x pos) (tVar i) := by
  unfold rdSlot at h
  simp only [Bool.and_eq_true, decide_eq_true_eq] at h
  exact pe_var (by rw [hN]; exact h.1.1) (vis_vis h.1.2) (okN1 h.2) (okN2 h.2)

theorem pw_bool {X : Cx} {op : BoolOp} {es : List Expr} {pos : Pos} {t : TT} (h : PT X (.BoolOp op es pos) t) : PW X (.BoolOp op es pos) t := ⟨fun _ pins s σ H Q I q => h.run pins s σ H Q I q⟩
theorem spot {w : Wd} {σ : L2.St} {H Z : Hp} {ev : Ev} {A : Nat → List Addr} {i : Nat} {xs : List D} (R : RS w.K w.c σ H Z ev A) (e : ownL ev[i]? = some xs) :
    ∃ a ys, σ[i]? = some (some (.ref a)) ∧ A i = [a] ∧ H a = some (.lst ys) ∧ ys.length ≤ sizeLine ∧ Rps w.K Z ys xs ∧ ∀ (H' : Hp) (ys' : List V) (xs' : List D), (∀ b, b ≠ a → H' b = H b) → H' a = some (.lst ys') → ys'.length ≤ sizeLine → Rps w.K Z ys' xs' →
      RS w.K w.c σ H' Z (putL ev i xs') A := by
  cases hs : ev[i]? with
  | none => rw [hs] at e; cases e
  | some sv =>
    rw [hs] at e
    have ne : ∀ {a : Addr} {b : Addr}, A i = [a] → b ∉ A i → b ≠ a := fun h n z => n (by rw [h, z]; simp)
    cases sv with
    | no => cases e
    | sh d => cases e
    | io ds =>
      cases e
      obtain ⟨a, e1, e2, ys, g1, g2, g3⟩ := R.sl i _ hs
      refine ⟨a, ys, e1, e2, g1, g2, g3, fun H' ys' xs' k h1 h2 h3 => ?_⟩
      have q := R.change (sw := .io xs') hs (.inr ⟨trivial, trivial⟩) (fun b hb => k b (ne e2 hb)) ⟨a, e1, e2, ys', h1, h2, h3⟩
      unfold putL
      rw [hs]; exact q
    | ow o =>
      cases o with
      | l ds =>
        cases e
        obtain ⟨a, e1, e2, ys, g1, g2, g3⟩ := R.sl i _ hs
        refine ⟨a, ys, e1, e2, g1, g2, g3, fun H' ys' xs' k h1 h2 h3 => ?_⟩
        have q := R.change (sw := .ow (.l xs')) hs (.inl ⟨id, id⟩) (fun b hb => k b (ne e2 hb)) ⟨a, e1, e2, ys', h1, h2, h3⟩
        unfold putL
        rw [hs]; exact q
      | d t kvs => cases e
      | ll dss => cases e
theorem erase_ix : ∀ {ns : List Int} {i : Int}, i ∈ ns → ∃ j, ns[j]? = some i ∧ (∀ m : Nat, m < j → ns[m]? ≠ some i) ∧ ns.erase i = ns.eraseIdx j
  | [], _, h => by cases h
  | x :: ns, i, h => by
    by_cases e : x = i
    · subst e
      exact ⟨0, rfl, fun m hm => by omega, by simp⟩
    · have h' : i ∈ ns := by
        rcases List.mem_cons.mp h with q | q
        · exact absurd q.symm e
        · exact q
      obtain ⟨j, h1, h2, h3⟩ := erase_ix h'
      refine ⟨j + 1, by simpa using h1, fun m hm => ?_, ?_⟩
      · cases m with
        | zero => simpa using e
        | succ m => simpa using h2 m (by omega)
      · rw [List.erase_cons_tail (by simpa using e), h3]
        rfl
/-- a list changed by its method -/
theorem mth_ok {X : Cx} {K : PySem.W.Frag} (hK : X.K = K) (m : Mth) : ∃ (id : String) (r : V → List V → Hp → VK → Prop), PySem.Slot "list" (sN m.nm) id ∧ typeOf (.builtin id) = pure (.type "method_descriptor") ∧ MtR X id r ∧
    ∀ {Z H : Hp} {a : Addr} {ys : List V} {xs : List D} {y : V} {d e : D} {xs' : List D} {Q : VK}, Same Z H → H a = some (.lst ys) → ys.length ≤ sizeLine → Rps K Z ys xs → Rp K Z y d → mth m xs d = some (e, xs') →
      (∀ z ys', Rp K Z z e → ys'.length ≤ sizeLine → Rps K Z ys' xs' → Q z (upd H a (.lst ys'))) → r (.ref a) [y] H Q := by
  cases m with
  | append =>
    refine ⟨_, _, PySem.F.slot_list_append, PySem.F.type_list_append, mt_append, fun {Z H a ys xs y d e xs' Q} s h l r ry hm k => ?_⟩
    simp only [mth] at hm
    split at hm <;> cases hm
    rename_i hl
    rw [line_eq] at hl
    have e1 := r.length
    exact ⟨a, ys, y, rfl, rfl, h, by omega, k _ _ .non (by rw [List.length_append]; simp; omega) (r.append (.cons ry .nil))⟩
  | extend =>
    refine ⟨_, _, PySem.F.slot_list_extend, PySem.F.type_list_extend, mt_extend, fun {Z H a ys xs y d e xs' Q} s h l r ry hm k => ?_⟩
    cases d <;> (simp only [mth] at hm) <;> first | (cases hm; done) | skip
    split at hm <;> cases hm
    rename_i hl
    rw [line_eq] at hl
    cases ry with
    | lst g1 g2 g3 =>
      have e1 := r.length
      have e2 := g3.length
      exact ⟨a, _, ys, _, rfl, rfl, h, s _ _ g1, by omega, k _ _ .non (by rw [List.length_append]; omega) (r.append g3)⟩
  | remove =>
    refine ⟨_, _, PySem.F.slot_list_remove, PySem.F.type_list_remove, mt_remove, fun {Z H a ys xs y d e xs' Q} s h l r ry hm k => ?_⟩
    cases d <;> (simp only [mth] at hm) <;> first | (cases hm; done) | skip
    rename_i i
    split at hm
    · rename_i ns hn
      split at hm <;> cases hm
      rename_i hin
      cases ry
      have e1 := r.ints hn
      subst e1
      obtain ⟨j, hj, hjn, he⟩ := erase_ix hin
      refine ⟨a, ns, i, j, rfl, rfl, h, hj, hjn, ?_⟩
      rw [← he]
      refine k _ _ .non ?_ (Rps.ofInts _)
      rw [List.length_map] at l ⊢
      have := List.length_erase_of_mem hin
      omega
    · cases hm
  | pop1 =>
    refine ⟨_, _, PySem.F.slot_list_pop, PySem.F.type_list_pop, mt_popAt, fun {Z H a ys xs y d e xs' Q} s h l r ry hm k => ?_⟩
    cases d <;> (simp only [mth] at hm) <;> first | (cases hm; done) | skip
    rename_i i
    split at hm
    · rename_i h0
      split at hm <;> cases hm
      rename_i hx
      cases ry
      obtain ⟨z, hz, rz⟩ := r.getD hx
      have hlt : i.toNat < ys.length := (List.getElem?_eq_some_iff.mp hz).1
      have hle : (ys.length : Int) ≤ 16777216 := by
        have := l
        rw [sizeLine_eq] at this
        omega
      have hix : ixN ys.length i = some i.toNat := by
        unfold ixN
        rw [if_pos h0, if_pos (by omega)]
      refine ⟨a, ys, i, i.toNat, z, rfl, rfl, h, by omega, by omega, (ixN_seq hix).1, hz, k _ _ rz ?_ (r.erase _)⟩
      exact Nat.le_trans (len_erase _ _) l
    · cases hm
theorem atD_ix {α : Type} {xs : List α} {i : Int} {v : α} (h : atD xs i = some v) : ∃ k, ixN xs.length i = some k ∧ xs[k]? = some v := by
  rw [atD_atI] at h
  unfold atI at h
  cases e : ixN xs.length i with
  | none => rw [e] at h; cases h
  | some k => rw [e] at h; exact ⟨k, rfl, h⟩
theorem ll_spot {w : Wd} {σ : L2.St} {H Z : Hp} {ev : Ev} {A : Nat → List Addr} {i : Nat} {xss : List (List D)} (R : RS w.K w.c σ H Z ev A) (e : ownLL ev[i]? = some xss) :
    ev[i]? = some (.ow (.ll xss)) ∧ ∃ a bs, σ[i]? = some (some (.ref a)) ∧ A i = a :: bs ∧ H a = some (.lst (bs.map V.ref)) ∧ bs.length ≤ sizeLine ∧ bs.length = xss.length ∧
      ∀ (k : Nat) b ds, bs[k]? = some b → xss[k]? = some ds → ∃ xs, H b = some (.lst xs) ∧ xs.length ≤ sizeLine ∧ Rps w.K Z xs ds := by
  cases hs : ev[i]? with
  | none => rw [hs] at e; cases e
  | some sv =>
    rw [hs] at e
    cases sv with
    | no => cases e
    | sh d => cases e
    | io ds => cases e
    | ow o =>
      cases o with
      | l ds => cases e
      | d t kvs => cases e
      | ll dss =>
        cases e
        obtain ⟨a, e1, bs, e2, g1, g2, g3, g4⟩ := R.sl i _ hs
        exact ⟨rfl, a, bs, e1, e2, g1, g2, g3, g4⟩
theorem ll_at {K : PySem.W.Frag} {H Z : Hp} {bs : List Addr} {xss : List (List D)} {m : Int} {ds : List D} (hl : bs.length = xss.length)
    (h : ∀ (k : Nat) b ds, bs[k]? = some b → xss[k]? = some ds → ∃ xs, H b = some (.lst xs) ∧ xs.length ≤ sizeLine ∧ Rps K Z xs ds) (e : atD xss m = some ds) :
    ∃ k b xs, ixN xss.length m = some k ∧ bs[k]? = some b ∧ xss[k]? = some ds ∧ atI (bs.map V.ref) m = some (.ref b) ∧ H b = some (.lst xs) ∧ xs.length ≤ sizeLine ∧ Rps K Z xs ds := by
  obtain ⟨k, h1, h2⟩ := atD_ix e
  have hk : k < bs.length := by rw [hl]; exact (List.getElem?_eq_some_iff.mp h2).1
  obtain ⟨xs, g1, g2, g3⟩ := h k bs[k] ds (List.getElem?_eq_getElem hk) h2
  refine ⟨k, bs[k], xs, h1, List.getElem?_eq_getElem hk, h2, ?_, g1, g2, g3⟩
  unfold atI
  rw [List.length_map, hl, h1]
  show (bs.map V.ref)[k]? = _
  rw [List.getElem?_map, List.getElem?_eq_getElem hk]
  rfl
theorem cmp_bool {c : Cf} {o : Cop} {a b : E} {ev e : Ev} {r : RV} (h : evE c (.cmp o a b) ev = .ok r e) : ∃ k, r = .v (.bool k) := by
  simp only [evE] at h
  cases h1 : evE c a ev with
  | bad => rw [h1] at h; cases h
  | ex _ _ => rw [h1] at h; cases h
  | ok r1 e1 =>
    rw [h1] at h
    simp only [R.bind] at h
    cases h2 : evE c b e1 with
    | bad => rw [h2] at h; cases h
    | ex _ _ => rw [h2] at h; cases h
    | ok r2 e2 =>
      rw [h2] at h
      simp only at h
      split at h
      · split at h <;> cases h
        exact ⟨_, rfl⟩
      · cases h
theorem chn_bool {c : Cf} {o p : Cop} {a b d : E} {ev e : Ev} {r : RV} (h : evE c (.chn o p a b d) ev = .ok r e) : ∃ k, r = .v (.bool k) := by
  simp only [evE] at h
  cases h1 : evE c a ev with
  | bad => rw [h1] at h; cases h
  | ex _ _ => rw [h1] at h; cases h
  | ok r1 e1 =>
    rw [h1] at h
    simp only [R.bind] at h
    cases h2 : evE c b e1 with
    | bad => rw [h2] at h; cases h
    | ex _ _ => rw [h2] at h; cases h
    | ok r2 e2 =>
      rw [h2] at h
      simp only at h
      split at h
      · split at h
        · cases h3 : evE c d e2 with
          | bad => rw [h3] at h; cases h
          | ex _ _ => rw [h3] at h; cases h
          | ok r3 e3 =>
            rw [h3] at h
            simp only at h
            split at h
            · split at h <;> cases h
              exact ⟨_, rfl⟩
            · cases h
        · cases h; exact ⟨_, rfl⟩
        · cases h
      · cases h
/-- a dict's keys are walked, the dict locked meanwhile -/
theorem keysE_ok {w : Wd} {σ : L2.St} {H Z : Hp} {ev e1 : Ev} {A : Nat → List Addr} {i : Nat} {ds : List D} (R : RS w.K w.c σ H Z ev A) (h : keysE ev i = some (ds, e1)) :
    ∃ Z1 A1 d, Same Z Z1 ∧ RS w.K w.c σ H Z1 e1 A1 ∧ σ[i]? = some (some (.ref d)) ∧ ((∃ q ks, Z1 d = some (.frz q (.dK ks)) ∧ WalkOk w.K (Itk d q ks) Z1 ds) ∨ (∃ q ks, Z1 d = some (.frz q (.dT ks)) ∧ WalkOk w.K (Itkt d q ks) Z1 ds) ∨
      (∃ ks, Z1 d = some (.dK ks) ∧ ∀ q, WalkOk w.K (Itk d q ks) (chg Z1 d (.frz q (.dK ks))) ds) ∨ ∃ ks, Z1 d = some (.dT ks) ∧ ∀ q, WalkOk w.K (Itkt d q ks) (chg Z1 d (.frz q (.dT ks))) ds) := by
  unfold keysE at h
  split at h
  · rename_i t kvs e2 he
    cases h
    have hx : ∃ x, σ[i]? = some (some x) := by
      cases hs : ev[i]? with
      | none => simp only [esc, hs] at he; cases he
      | some sv =>
        have q := R.sl i sv hs
        cases sv with
        | no => simp only [esc, hs] at he; cases he
        | io _ => simp only [esc, hs] at he; cases he
        | sh x => obtain ⟨_, v, q, _⟩ := q; exact ⟨v, q⟩
        | ow o => obtain ⟨a, q, _⟩ := q; exact ⟨_, q⟩
    obtain ⟨x, hx⟩ := hx
    obtain ⟨Z1, A1, s1, R1, rp⟩ := R.esc (r := .s i) hx he
    cases rp with
    | dk g n r =>
      refine ⟨Z1, A1, _, s1, R1, hx, ?_⟩
      rcases g with g | ⟨q, g⟩
      · exact .inr (.inr (.inl ⟨_, g, fun q => walkOk_keys n (by rw [chg_at, g]; rfl) (r.lk (.inl ⟨_, .inl rfl, .inr ⟨q, rfl⟩⟩) g)⟩))
      · exact .inl ⟨q, _, g, walkOk_keys n g r⟩
    | dt g n r =>
      refine ⟨Z1, A1, _, s1, R1, hx, ?_⟩
      rcases g with g | ⟨q, g⟩
      · exact .inr (.inr (.inr ⟨_, g, fun q => walkOk_keysT n (by rw [chg_at, g]; rfl) (r.lk (.inr ⟨_, .inl rfl, .inr ⟨q, rfl⟩⟩) g)⟩))
      · exact .inr (.inl ⟨q, _, g, walkOk_keysT n g r⟩)
  · cases h
/-- behind the lock -/
theorem unlk {w : Wd} {σ σ' : L2.St} {H Z1 H' Z' : Hp} {e1 e : Ev} {A1 A' : Nat → List Addr} {d : Addr} {u u' : HO} (R1 : RS w.K w.c σ H Z1 e1 A1) (g : Z1 d = some u) (l : Lk u u') (s : Same (chg Z1 d u') Z') (R : RS w.K (w.c.lk d u') σ' H' Z' e A') :
    H' d = some u' ∧ Same Z1 (chg Z' d u) ∧ RS w.K w.c σ' (upd H' d u) (chg Z' d u) e A' ∧ ∀ x r, RR w.K (w.c.lk d u') σ' H' Z' e A' x r → RR w.K w.c σ' (upd H' d u) (chg Z' d u) e A' x r := by
  have zd : Z' d = some u' := s d u' (by rw [chg_at, g]; rfl)
  have R2 := R.swap l.symm zd
  rw [R1.lkBack g] at R2
  refine ⟨R.sub d u' zd, fun p o e => ?_, R2, fun x r q => ?_⟩
  · by_cases hp : p = d
    · rw [hp] at e ⊢
      rw [g] at e; rw [chg_at, zd]; exact e
    · rw [chg_ne hp]
      exact s p o (by rw [chg_ne hp]; exact e)
  · have q2 := q.swap l.symm zd
    rw [R1.lkBack g] at q2
    exact q2
theorem Out.lock {w : Wd} {α : Type} {σ : L2.St} {H Z1 : Hp} {e1 : Ev} {A1 : Nat → List Addr} {d : Addr} {u u' : HO} {a : RV} {e : Ev} {Q : VK} (R1 : RS w.K w.c σ H Z1 e1 A1) (g : Z1 d = some u) (l : Lk u u') (h : Out w σ Z1 (.ok a e) fun r ev' H' Z' A' => ∀ x, RR w.K w.c σ H' Z' ev' A' x r → Q x H') :
    Out (w.blk (w.c.lk d u')) σ (chg Z1 d u') (.ok a e) fun r ev' H' Z' A' => ∀ x, RR w.K (w.c.lk d u') σ H' Z' ev' A' x r → H' d = some u' ∧ Q x (upd H' d u) := by
  intro H' Z' A' s R x rr
  obtain ⟨k1, k2, k3, k4⟩ := unlk R1 g l s R
  exact ⟨k1, h _ _ A' k2 k3 x (k4 x a rr)⟩
/-- a dict comprehension over a dict's keys -/
theorem dck_turns {w : Wd} {kt : Bool} {own tg : List Nat} {tup : Bool} {i : Nat} {cd : C} {k v : E} {σ : L2.St} {H Z : Hp} {ev : Ev} {A : Nat → List Addr} {Q : VK} (ho : ∀ i ∈ tg, i ∈ own) (R : RS w.K w.c σ H Z ev A)
    (h : Out w σ Z (evE w.cf (.dck kt own tg tup i cd k v) ev) fun r ev' H' Z' A' => ∀ x, RR w.K w.c σ H' Z' ev' A' x r → Q x H') :
    tDcc kt (iKeys (tVar i)) (gTg w.K tup tg) (anyC w cd) (anyE w k) (anyE w v) own σ H Q ∨ tLockE (tDcc kt (iKeys (tVar i)) (gTg w.K tup tg) (anyC w cd) (anyE w k) (anyE w v) own) σ H Q := by
  simp only [evE] at h
  cases hk : keysE ev i with
  | none => rw [hk] at h; exact h.elim
  | some p =>
    obtain ⟨ds, e1⟩ := p
    rw [hk] at h
    simp only at h
    obtain ⟨Z1, A1, d, s1, R1, hx, wk⟩ := keysE_ok R hk
    split at h
    · rename_i evs hw
      split at h
      · rename_i kvs e2 hl
        have h1 := Out.same h s1
        rcases wk with ⟨q, ks, g, wk⟩ | ⟨q, ks, g, wk⟩ | ⟨ks, g, wk⟩ | ⟨ks, g, wk⟩
        · exact .inl ⟨.ref d, hx, d, q, rfl, .inl ⟨ks, R1.sub _ _ g, dc_turns ho wk R1 hw hl h1⟩⟩
        · exact .inl ⟨.ref d, hx, d, q, rfl, .inr ⟨ks, R1.sub _ _ g, dc_turns ho wk R1 hw hl h1⟩⟩
        · refine .inr ⟨d, .dK ks, R1.sub _ _ g, trivial, fun q => ⟨.ref d, hx, d, q, rfl, .inl ⟨ks, upd_same, ?_⟩⟩⟩
          have l : Lk (.dK ks) (.frz q (.dK ks)) := .inl ⟨_, .inl rfl, .inr ⟨q, rfl⟩⟩
          exact dc_turns (w := w.blk (w.c.lk d (.frz q (.dK ks)))) ho (wk q) (R1.swap l g) hw hl (Out.lock (α := RV) R1 g l h1)
        · refine .inr ⟨d, .dT ks, R1.sub _ _ g, trivial, fun q => ⟨.ref d, hx, d, q, rfl, .inr ⟨ks, upd_same, ?_⟩⟩⟩
          have l : Lk (.dT ks) (.frz q (.dT ks)) := .inr ⟨_, .inl rfl, .inr ⟨q, rfl⟩⟩
          exact dc_turns (w := w.blk (w.c.lk d (.frz q (.dT ks)))) ho (wk q) (R1.swap l g) hw hl (Out.lock (α := RV) R1 g l h1)
      · exact h.elim
    · exact h.elim
theorem ownP_snd (N : List Str) (own : List Nat) : (ownP N own).map (·.2) = own := by
  unfold ownP
  rw [List.map_map]
  conv => rhs; rw [← List.map_id own]
  rfl
end Bide

set_option autoImplicit false
set_option linter.all false
set_option maxRecDepth 100000
set_option maxHeartbeats 4000000
/-! {x: (0, ())} -/
namespace Bide
open PySem L2
theorem Grow.then {Z H Z1 H1 Z2 H2 : Hp} (a : Grow Z H Z1 H1) (b : Grow Z1 H1 Z2 H2) : Grow Z H Z2 H2 where
  zz := a.zz.trans b.zz
  sub := b.sub
  zf := fun p o e => by
    rcases b.zf p o e with q | q | q
    · exact a.zf p o q
    · right; left
      cases h : H p with
      | none => rfl
      | some u => rw [a.hh p u h] at q; cases q
    · exact .inr (.inr q)
  hh := a.hh.trans b.hh
theorem dlit_ok {w : Wd} {k : Nat} {N : List Str} {fb : Str → Bool} {X : Cx} {i : Nat} {x : Str} {y : Int} {c1 c2 c3 : Nat} {p1 p2 p3 p4 pos : Pos} (hX : XOk w k N fb X) (h1 : rdSlot N X.env.scope i x = true) :
    PE X (.Dict [some (.Name x p1)] [.Tuple [.Constant (.int y) c1 p2, .Tuple [] c2 p3] c3 p4] pos) (semE w (.dlit (.var i) (.tup (.cons (.int y) (.cons (.tup .nil) .nil))))) := by
  refine ⟨fun pins s σ H Q I h => (pe_disp (pps_cons (rd_slot hX.N h1) (pe_tup (pa_cons pe_int (pa_cons (pe_tup pa_nil) pa_nil))) pps_nil) rfl rfl (fun q => by cases q) (Nat.le_of_ble_eq_true rfl)).run pins s σ H Q I ?_⟩
  obtain ⟨ev, Z, A, R0, h⟩ := h
  have l0 : (0 : Nat) ≤ line ∧ (2 : Nat) ≤ line := ⟨by unfold line; omega, by unfold line; omega⟩
  simp only [evE, evEs, Bide.R.bind] at h
  cases hs : ev[i]? with
  | none => rw [hs] at h; exact h.elim
  | some sv =>
    rw [hs] at h
    cases sv with
    | no => exact h.elim
    | io ds => simp [Bide.R.bind,stl,esc,escs,rd,rds,keyOk,l0.1,l0.2,hs] at h; exact h.elim
    | ow o =>
      cases o with
      | l ds => simp [Bide.R.bind,stl,esc,escs,rd,rds,keyOk,l0.1,l0.2,hs] at h; exact h.elim
      | d t kvs => simp [Bide.R.bind,stl,esc,escs,rd,rds,keyOk,l0.1,l0.2,hs] at h; exact h.elim
      | ll xs => simp [Bide.R.bind,stl,esc,escs,rd,rds,keyOk,l0.1,l0.2] at h; exact h.elim
    | sh d =>
      obtain ⟨_, v, e1, e2⟩ := R0.sl i _ hs
      simp [Bide.R.bind,stl,esc,escs,rd,rds,l0.1,l0.2] at h
      cases hk : keyOk d with
      | false => rw [hk] at h; exact h.elim
      | true =>
        rw [hk] at h
        have g : Give w.K Z H (.f (.d false [(d, .tuple [.int y, .tuple []])])) Q := R0.give rfl rfl h
        obtain ⟨q, rfl, rfl⟩ := key_of_flat (.inl e2 : RdV w.K Z Z v d) hk
        intro p hp
        refine ⟨_, e1, ?_⟩
        refine ⟨by rw [sizeLine_eq]; simp, fun a ha => ?_⟩
        refine ⟨by rw [sizeLine_eq]; simp, fun b hb => ?_⟩
        have ap : a ≠ p := fun e => by rw [e, upd_same] at ha; cases ha
        rw [upd_ne ap] at ha
        have ba : b ≠ a := fun e => by rw [e, upd_same] at hb; cases hb
        rw [upd_ne ba] at hb
        have bp : b ≠ p := fun e => by rw [e, upd_same] at hb; cases hb
        rw [upd_ne bp] at hb
        have pa : p ≠ a := fun e => ap e.symm
        have pb : p ≠ b := fun e => bp e.symm
        refine ⟨by rw [upd_ne pb, upd_ne pa, upd_same], [(q, .ref b)], rfl, by simp, ?_⟩
        have hH : upd (upd (upd (upd H p (.dK [])) a (.tup [])) b (.tup [.int y, .ref a])) p (.dK (mergeK [] [(q, .ref b)])) = upd (upd (upd H a (.tup [])) b (.tup [.int y, .ref a])) p (.dK [(q, .ref b)]) := by
          funext z
          have hm : mergeK [] [(q, V.ref b)] = [(q, V.ref b)] := rfl
          rw [hm]
          by_cases h1 : z = p
          · rw [h1, upd_same, upd_same]
          · rw [upd_ne h1, upd_ne h1]
            by_cases h2 : z = b
            · rw [h2, upd_same, upd_same]
            · rw [upd_ne h2, upd_ne h2]
              by_cases h3 : z = a
              · rw [h3, upd_same, upd_same]
              · rw [upd_ne h3, upd_ne h3, upd_ne h1]
        rw [hH]
        have sub := R0.sub
        have G1 : Grow Z H (upd Z a (.tup [])) (upd H a (.tup [])) := Grow.new sub ha
        have hb1 : upd H a (.tup []) b = none := by rw [upd_ne ba]; exact hb
        have G2 := G1.then (Grow.new (o := .tup [.int y, .ref a]) G1.sub hb1)
        have hp2 : upd (upd H a (.tup [])) b (.tup [.int y, .ref a]) p = none := by rw [upd_ne pb, upd_ne pa]; exact hp
        have G3 := G2.then (Grow.own (o := .dK [(q, .ref b)]) G2.sub hp2)
        refine g _ _ _ G3 ⟨p, [p], rfl, ⟨rfl, [(q, .ref b)], upd_same, by rw [sizeLine_eq]; simp, .cons (.tup upd_same (by rw [sizeLine_eq]; simp) (.cons (.int y) (.cons (.tup (by rw [upd_ne (fun e => ba e.symm)]; exact upd_same) (by rw [sizeLine_eq]; simp) .nil) .nil))) .nil⟩, by simp, fun c hc => ?_⟩
        cases List.mem_singleton.mp hc
        exact ⟨by
          rw [upd_ne pb, upd_ne pa]
          exact zFree sub hp, hp⟩
end Bide

set_option autoImplicit false
set_option Elab.async false
set_option linter.all false
set_option maxRecDepth 100000
set_option maxHeartbeats 4000000
/-! x[::-1] of a list or a tuple. -/
namespace Bide
open PySem PySem.Spec PyProof.Rows L2 HT
section
variable {prog : Program} {w : World} {A : Around} {E : Value → Shared → Prop} {s : Shared}
theorem rev_applied {sl : Addr} {vl vu vs : Value} {n : Nat} {Q : Int × Int × Nat → Shared → Prop} (hs : s.heap.IsSliceOf sl vl vu vs) (pl : IsPart vl none) (pu : IsPart vu none) (ps : IsPart vs (some (-1)))
    (h : Q ((n : Int) - 1, -1, n) s) : wpAny (model prog w) A (Builtin.Slice.sliceApplied (.ref sl) (pure (n : Int))) Q E s := by
  obtain ⟨os, hos, hcs, hds⟩ := id hs
  unfold Builtin.Slice.sliceApplied Builtin.Slice.sliceFields
  refine wpAny_bind (wpAny_bind (wpAny_field hos hds (x := vl) rfl (wpAny_bind (wpAny_field hos hds (x := vu) rfl (wpAny_bind (wpAny_field hos hds (x := vs) rfl (wpAny_pure ?_)))))))
  refine wpAny_bind (slicePart_ ps ?_)
  show wpAny _ _ (if ((-1 : Int) == 0) = true then _ else _) _ _ s
  rw [if_neg (by decide)]
  refine wpAny_bind (slicePart_ pl (wpAny_bind (slicePart_ pu (wpAny_bind (wpAny_pure ?_)))))
  show wpAny _ _ (pure ((n : Int) - 1, (-1 : Int), Builtin.Slice.slicePlaces ((n : Int) - 1) (-1) (-1))) _ _ s
  have e : Builtin.Slice.slicePlaces ((n : Int) - 1) (-1) (-1) = n := by
    unfold Builtin.Slice.slicePlaces
    have h1 : ¬ ((-1 : Int) > 0) := by decide
    simp only [h1, if_false]
    by_cases q : (n : Int) - 1 > -1
    · rw [if_pos q]
      have : ((n : Int) - 1 - -1 - 1) / (- -1) = (n : Int) - 1 := by
        rw [show (- -1 : Int) = 1 by decide, Int.ediv_one]
        omega
      rw [this]
      omega
    · rw [if_neg q]
      omega
  rw [e]
  exact wpAny_pure h
theorem fm_congr {α β : Type} {f g : α → Option β} : ∀ (l : List α), (∀ a ∈ l, f a = g a) → l.filterMap f = l.filterMap g
  | [], _ => rfl
  | a :: l, h => by rw [List.filterMap_cons, List.filterMap_cons, h a (List.mem_cons_self ..), fm_congr l (fun b hb => h b (List.mem_cons_of_mem _ hb))]
theorem rev_pick (xs : Array Value) : ((List.range xs.size).filterMap fun (k : Nat) => xs[((xs.size : Int) - 1 + (k : Int) * (-1)).toNat]?).toArray = xs.toList.reverse.toArray := by
  have h := PySem.W.krv_all xs
  have h2 : ((List.range xs.size).map fun k => xs.size - 1 - k).filterMap (xs[·]?) = xs.toList.reverse := by rw [PySem.W.krv_range, List.filterMap_reverse, h]
  rw [List.filterMap_map] at h2
  rw [← h2]
  refine congrArg List.toArray (fm_congr _ fun k hk => ?_)
  rw [List.mem_range] at hk
  have : ((xs.size : Int) - 1 + (k : Int) * (-1)).toNat = xs.size - 1 - k := by omega
  rw [this]
  rfl
theorem getItem_tuple_rev {t sl : Addr} {items : Array Value} {vl vu vs : Value} {Q : Value → Shared → Prop} (ht : IsTup s.heap t items) (hs : s.heap.IsSliceOf sl vl vu vs) (pl : IsPart vl none) (pu : IsPart vu none) (ps : IsPart vs (some (-1)))
    (h : Q (.ref s.heap.objs.size) { s with heap := s.heap.push { cls := .type "tuple", data := .seq items.toList.reverse.toArray } })
    (hsz : items.size ≤ sizeLine) : wpAny (model prog w) A (getItem (.ref t) (.ref sl)) Q E s := by
  have htake : sizeOk (.seq items.toList.reverse.toArray) := by
    show items.toList.reverse.toArray.size ≤ sizeLine
    rw [List.size_toArray, List.length_reverse, Array.length_toList]
    exact hsz
  obtain ⟨os, hos, hcs, hds⟩ := id hs
  have hTs : s.TypeIs (.ref sl) "slice" := ⟨os, hos, hcs⟩
  unfold getItem
  try with_reducible refine wpAny_holding ?_
  first | refine wpAny_bind (wpAny_pure ?_) | skip
  refine wpAny_bind (wpAny_sequenceKey ht.typeIs (by decide) ?_)
  refine wpAny_bind (wpAny_callSpecial?_slot (name := Str.ofString "__getitem__") ht.typeIs PyProof.Rows.slot_tuple_getitem
    (wpAny_call_entry PyProof.Rows.slot_tuple_getitem ht.typeIs entry_tuple_getitem ?_ (args_tuple_getitem _ _)))
  show wpAny _ _ (Builtin.Tuple.tupleItemsOf (.ref t) >>= _) _ _ s
  refine wpAny_bind (tupleItemsOf_ ht ?_)
  refine wpAny_bind (wpAny_typeOf hTs ?_)
  rw [if_pos (by decide)]
  refine wpAny_bind (rev_applied hs pl pu ps ?_)
  have hno : ¬ ((((items.size : Int) - 1) == 0 && (-1 : Int) == 1 && items.size == items.size) = true) := by
    intro q
    rw [Bool.and_eq_true, Bool.and_eq_true] at q
    exact absurd q.1.2 (by decide)
  show wpAny _ _ (if (((items.size : Int) - 1) == 0 && (-1 : Int) == 1 && items.size == items.size) = true then _ else _) _ _ s
  rw [if_neg hno, rev_pick]
  first
    | exact wpAny_bind (m := Builtin.Tuple.tupleExact _) (wpAny_newObj_type (wpAny_pure ⟨_, rfl, wpAny_pure h⟩) htake)
    | exact wpAny_bind (m := Builtin.Tuple.tupleExact _) (wpAny_newObj_type (wpAny_bind (wpAny_pure (wpAny_pure ⟨_, rfl, wpAny_pure h⟩))) htake)
    | exact wpAny_bind (wpAny_bind (m := Builtin.Tuple.tupleExact _) (wpAny_newObj_type (wpAny_pure (wpAny_pure ⟨_, rfl, wpAny_pure h⟩)) htake))
    | exact wpAny_bind (wpAny_bind (m := Builtin.Tuple.tupleExact _) (wpAny_newObj_type (wpAny_pure ⟨_, rfl, wpAny_pure h⟩) htake))
end
section
variable {X : Cx}
def tRev (K : PySem.W.Frag) (te : TE) : TE := fun σ H Q => te σ H fun x H1 => ∃ a xs, x = .ref a ∧ ((SqL K H1 a xs ∧ ∀ p, H1 p = none → Q (.ref p) (upd H1 p (.lst xs.reverse))) ∨ (SqT K H1 a xs ∧ ∀ p, H1 p = none → Q (.ref p) (upd H1 p (.tup xs.reverse))))
theorem pe_rev {e : Expr} {te : TE} {k : Nat} {p1 p2 p3 pos : Pos} (he : PE X e te) : PE X (.Subscript e (.Slice none none (some (.UnaryOp .USub (.Constant (.int 1) k p1) p2)) p3) pos) (tRev X.K te) := by
  refine ⟨fun pins s σ H Q I h => ?_⟩
  refine Subscript_ (thn (he.run pins s σ H _ I h) fun v s1 ⟨x, H1, I1, r1, q1⟩ => ?_)
  obtain ⟨a, xs, ex, hx⟩ := q1
  subst ex
  cases r1
  have hst : PO X (some (.UnaryOp .USub (.Constant (.int 1) k p1) p2)) (tPart (tUn (rU fun i => .int (-i)) (tC (.int 1)))) := po_some (pe_un un_neg pe_int)
  refine wpAny_Slice (thn (po_none.run pins s1 σ H1 (fun o H2 => o = none ∧ H2 = H1) I1 ⟨rfl, rfl⟩) fun vl s2 ⟨l, H2, I2, pl, el, e2⟩ => ?_)
  subst el e2
  refine thn (po_none.run pins s2 σ H2 (fun o H3 => o = none ∧ H3 = H2) I2 ⟨rfl, rfl⟩) fun vu s3 ⟨u, H3, I3, pu, eu, e3⟩ => ?_
  subst eu e3
  refine thn (hst.run pins s3 σ H3 (fun o H4 => o = some (-1) ∧ H4 = H3) I3 ⟨1, rfl, -1, rfl, rfl, rfl⟩) fun vs s4 ⟨o, H4, I4, ps, eo, e4⟩ => ?_
  subst eo e4
  have I5 : Inv X pins σ H4 { s4 with heap := s4.heap.push { cls := .type "slice", data := .fields #[vl, vu, vs] } } := I4.kept (t' := s4.toks) fun b ob q => Heap.get?_push_of_some _ q
  show wpAny (model X.prog X.w) X.A (subscriptTail e (.Slice none none (some (.UnaryOp .USub (.Constant (.int 1) k p1) p2)) p3) (.ref a) (.ref s4.heap.objs.size)) (EP X pins σ Q) X.xe { s4 with heap := s4.heap.push { cls := .type "slice", data := .fields #[vl, vu, vs] } }
  rcases hx with ⟨hx, q⟩ | ⟨hx, q⟩
  · obtain ⟨its, r, ht, hz⟩ := I5.list hx
    have hlen := r.length
    refine tail_any (ops := [.ref a, .ref s4.heap.objs.size]) ht.isList.typeIs (PySem.slot_list_getitem.lookup) ?_ (by with_unfolding_all rfl)
    refine wpAny_getItem_list_slice ht.isList (Heap.IsSliceOf.new _ vl vu vs) pl pu ps (by decide) ?_ (by rw [List.size_toArray]; omega)
    rw [PySem.W.krv_pick]
    refine ⟨.ref _, _, I5.laid (t' := s4.toks) (o := .lst xs.reverse) (fun b ob q => Heap.get?_push_of_some _ q) (Nat.le_refl _) ?_, rfl, q _ (I5.hok.fresh (Nat.le_refl _))⟩
    exact ⟨by rw [List.length_reverse]; exact hz, _, 0, r.reverse, Heap.get?_push_size _ rfl⟩
  · obtain ⟨its, r, ht, hz⟩ := I5.tuple hx
    have hlen := r.length
    refine tail_any (ops := [.ref a, .ref s4.heap.objs.size]) ht.typeIs (PyProof.Rows.slot_tuple_getitem.lookup) ?_ (by with_unfolding_all rfl)
    refine getItem_tuple_rev ht (Heap.IsSliceOf.new _ vl vu vs) pl pu ps ?_ (by rw [List.size_toArray]; omega)
    refine ⟨.ref _, _, I5.laid (t' := s4.toks) (o := .tup xs.reverse) (fun b ob q => Heap.get?_push_of_some _ q) (Nat.le_refl _) ?_, rfl, q _ (I5.hok.fresh (Nat.le_refl _))⟩
    exact ⟨by rw [List.length_reverse]; exact hz, _, r.reverse, IsTup.new _ _⟩
end
end Bide

set_option autoImplicit false
set_option Elab.async false
set_option maxRecDepth 100000
set_option linter.all false
set_option maxHeartbeats 1000000
/-! zip of a list or a tuple with a list or a tuple. -/
namespace Bide
open PySem L2 PyProof.Rows
/-- a list (true) or a tuple (false) of the abstract heap -/
def SqK (k : Bool) (K : PySem.W.Frag) (H : Hp) (a : Addr) (xs : List V) : Prop := match k with
  | true => SqL K H a xs
  | false => SqT K H a xs
def SqH (k : Bool) (h : Heap) (a : Addr) (its : Array Value) : Prop := match k with
  | true => h.IsList a its
  | false => h.IsTuple a its
def ItH (k : Bool) (h : Heap) (it a : Addr) (i : Nat) : Prop := match k with
  | true => h.IsListIter it a i
  | false => h.IsTupleIter it a i
def itO (k : Bool) (a : Addr) : Obj := match k with
  | true => { cls := .type "list_iterator", data := .fields #[.ref a, .int 0 0] }
  | false => { cls := .type "tuple_iterator", data := .fields #[.ref a, .int 0 0] }
theorem itH_at {k : Bool} {h h' : Heap} {it a : Addr} {i : Nat} (q : ItH k h it a i) (e : ∀ o, h.get? it = some o → h'.get? it = some o) : ItH k h' it a i := by
  cases k
  · exact Heap.IsTupleIter.at q e
  · exact Heap.IsListIter.at q e
theorem itH_obj {k : Bool} {h : Heap} {it a : Addr} {i : Nat} (q : ItH k h it a i) : ∃ o, h.get? it = some o ∧ ∀ v, o.data ≠ .cell v := by
  cases k
  · obtain ⟨o, e, _, d⟩ := q
    exact ⟨o, e, fun v q => by rw [d] at q; cases q⟩
  · obtain ⟨o, e, _, d⟩ := q
    exact ⟨o, e, fun v q => by rw [d] at q; cases q⟩
theorem itH_new {k : Bool} {h : Heap} {it a : Addr} (e : h.get? it = some (itO k a)) : ItH k h it a 0 := by
  cases k
  · exact ⟨_, e, rfl, rfl⟩
  · exact ⟨_, e, rfl, rfl⟩
theorem begK (k : Bool) (a : Addr) (its : Array Value) : Begins (.ref a) (itO k a) (fun h => SqH k h a its) := by
  cases k
  · exact begins_tuple a its
  · exact begins_list a its
theorem drawsK {prog : Program} {w : World} {A : Around} (k : Bool) (hh : A.handled = none) (it a : Addr) (hne : a ≠ it) (its : Array Value) :
    Draws prog w A it [it, a] its.size (fun i v => its[i]? = some v) (fun i h => ItH k h it a i ∧ SqH k h a its) := by
  cases k
  · exact Draws.tuple hh it a hne its
  · exact Draws.list hh it a hne its
section
variable {X : Cx} {pins : List (Addr × Obj)} {σ : L2.St} {H : Hp} {s : Shared}
theorem inv_sq {k : Bool} {a : Addr} {xs : List V} (I : Inv X pins σ H s) (h : SqK k X.K H a xs) : ∃ its : List Value, Vals xs its ∧ SqH k s.heap a its.toArray ∧ a < s.heap.objs.size := by
  cases k
  · obtain ⟨its, r, p, _⟩ := I.tuple h
    refine ⟨its, r, p, ?_⟩
    obtain ⟨o, e, _⟩ := id p
    exact Heap.lt_size e
  · obtain ⟨its, r, p, _⟩ := I.list h
    exact ⟨its, r, p.isList, p.lt⟩
theorem inv_sq_inj {k : Bool} {a : Addr} {xs ys : List V} (I : Inv X pins σ H s) (h : SqK k X.K H a xs) (h' : SqK k X.K H a ys) : xs = ys := by
  cases k
  · exact I.tuple_inj h h'
  · exact I.list_inj h h'
end
/-- the two as they stand at each turn, the items in new pairs -/
def ItzM (K : PySem.W.Frag) (k1 k2 : Bool) (a b : Addr) (n1 n2 : Nat) : L2.It where
  go := fun i H => ∃ (xs ys : List V) (x y : V), SqK k1 K H a xs ∧ SqK k2 K H b ys ∧ xs.length = n1 ∧ ys.length = n2 ∧ xs[i]? = some x ∧ ys[i]? = some y
  yld := fun i H v H' => ∃ t x y, v = .ref t ∧ H t = none ∧ H' = upd H t (.tup [x, y]) ∧ (∀ xs, SqK k1 K H a xs → xs[i]? = some x) ∧ ∀ ys, SqK k2 K H b ys → ys[i]? = some y
  stop := fun i H => ∃ xs ys : List V, SqK k1 K H a xs ∧ SqK k2 K H b ys ∧ xs.length = n1 ∧ ys.length = n2 ∧ (n1 ≤ i ∨ n2 ≤ i)
theorem turn_zipM {P : Program} {w : World} {K : PySem.W.Frag} {elts : List Expr} {kk : Nat} {tpos : Pos} {k1 k2 : Bool} {a b z TI TO i1 i2 : Addr} {n1 n2 : Nat} (S : ZipSep2 z TI TO i1 i2 [i1, a] [i2, b]) (ha : a ≠ i1) (hb : b ≠ i2) :
    Turn P w K (.Tuple elts kk tpos) (ItzM K k1 k2 a b n1 n2) [z, TI, TO, i1, i2] z (fun i h => IsZip h z TI TO .none ∧ IsTupOf2 h TI (.ref i1) (.ref i2) ∧ (∃ x y, IsTupOf2 h TO x y) ∧ ItH k1 h i1 a i ∧ ItH k2 h i2 b i ∧ i ≤ n1 ∧ i ≤ n2) where
  mem := List.mem_cons_self
  obj := by
    rintro i h ⟨hz, hTI, ⟨x, y, hTO⟩, h1, h2, _, _⟩ c hc
    have e' : c = z ∨ c = TI ∨ c = TO ∨ c = i1 ∨ c = i2 := by simpa using hc
    rcases e' with rfl | rfl | rfl | rfl | rfl
    · exact ⟨_, hz, fun v q => nomatch q⟩
    · exact ⟨_, hTI, fun v q => nomatch q⟩
    · exact ⟨_, hTO, fun v q => nomatch q⟩
    · exact itH_obj h1
    · exact itH_obj h2
  keep := by
    rintro i h h' ⟨hz, hTI, ⟨x, y, hTO⟩, h1, h2, l1, l2⟩ k
    exact ⟨k z (by simp) _ hz, k TI (by simp) _ hTI, ⟨x, y, k TO (by simp) _ hTO⟩, itH_at h1 fun o q => k i1 (by simp) o q, itH_at h2 fun o q => k i2 (by simp) o q, l1, l2⟩
  item := by
    intro X hP hw hK hc i pins s σ H E I hf st hg
    subst hP hw hK
    obtain ⟨hz, hTI, ⟨x0, y0, hTO⟩, h1, h2, l1, l2⟩ := st
    obtain ⟨xs, ys, x, y, hqx, hqy, hn1, hn2, hx, hy⟩ := hg
    obtain ⟨its, rv, p, _⟩ := inv_sq I hqx
    obtain ⟨its2, rv2, p2, _⟩ := inv_sq I hqy
    obtain ⟨u, hu, ru⟩ := rv.get hx
    obtain ⟨u2, hu2, ru2⟩ := rv2.get hy
    have hzl : z < s.heap.objs.size := Heap.lt_size hz
    have lt1 : i < its.toArray.size := by
      have := (List.getElem?_eq_some_iff.mp hu).1
      simpa using this
    have lt2 : i < its2.toArray.size := by
      have := (List.getElem?_eq_some_iff.mp hu2).1
      simpa using this
    have D1 := drawsK (prog := X.prog) (w := X.w) (A := X.A.in1) k1 (I.ok.hd hc) i1 a ha its.toArray
    have D2 := drawsK (prog := X.prog) (w := X.w) (A := X.A.in1) k2 (I.ok.hd hc) i2 b hb its2.toArray
    refine wpAny_pyNext_zipD2_item S D1 D2 hz hTI hTO ⟨h1, p⟩ ⟨h2, p2⟩ lt1 lt2 fun u' u2' h' tk hu' hu2' z' TO' st1 st2 hT hsz hk => ?_
    have ex : u' = u := by
      have : its.toArray[i]? = some u := by simpa using hu
      rw [this] at hu'
      exact (Option.some.inj hu').symm
    have ex2 : u2' = u2 := by
      have : its2.toArray[i]? = some u2 := by simpa using hu2
      rw [this] at hu2'
      exact (Option.some.inj hu2').symm
    subst ex ex2
    refine ⟨_, rfl, wpAny_letOwnedTupleGo_zip (s := { s with heap := h', toks := tk }) z' fun h'' z'' sb => ?_⟩
    have hT2 : h''.get? s.heap.objs.size = some { cls := .type "tuple", data := .seq #[u', u2'] } := (sb.2 _ (Nat.ne_of_gt hzl)).trans hT
    have new : ObjOk X.prog X.w (upd H s.heap.objs.size (.tup [x, y])) h'' s.heap.objs.size (.tup [x, y]) :=
      ⟨by show 2 ≤ sizeLine; decide, [u', u2'], .cons ru (.cons ru2 .nil), ⟨_, hT2, rfl, _, rfl⟩⟩
    have I1 : Inv X pins σ (upd H s.heap.objs.size (.tup [x, y])) { s with heap := h'', toks := tk } :=
      I.turnedNew (ch := [z, TI, TO, i1, i2]) (fun c o hb q => (sb.2 c (fun q' => hb (by simp [q']))).trans (hk c o (fun q' => hb (by simp [q'])) (fun q' => hb (by simp [q'])) (fun q' => hb (by simp [q'])) (fun q' => hb (by simp [q'])) q)) hf (Nat.le_refl _) new
    refine ⟨.ref s.heap.objs.size, _, I1, rfl, ⟨_, x, y, rfl, I.hok.fresh (Nat.le_refl _), rfl, fun l hl => by rw [inv_sq_inj I hl hqx]; exact hx, fun l hl => by rw [inv_sq_inj I hl hqy]; exact hy⟩, ⟨z'', ?_, ⟨u', u2', ?_⟩, ?_, ?_, ?_, ?_⟩, fun c hcm => ?_⟩
    · exact (sb.2 _ S.TIz).trans (hk _ _ S.TIz S.TITO S.TIi1 S.TIi2 hTI)
    · exact (sb.2 _ S.TOz).trans TO'
    · exact itH_at st1.1 fun o q => (sb.2 _ (Ne.symm S.zi1)).trans q
    · exact itH_at st2.1 fun o q => (sb.2 _ (Ne.symm S.zi2)).trans q
    · rw [← hn1]; exact (List.getElem?_eq_some_iff.mp hx).1
    · rw [← hn2]; exact (List.getElem?_eq_some_iff.mp hy).1
    · have hlt : c < s.heap.objs.size := by
        have e' : c = z ∨ c = TI ∨ c = TO ∨ c = i1 ∨ c = i2 := by simpa using hcm
        rcases e' with rfl | rfl | rfl | rfl | rfl
        · exact hzl
        · exact Heap.lt_size hTI
        · exact Heap.lt_size hTO
        · obtain ⟨o, q, _⟩ := itH_obj h1; exact Heap.lt_size q
        · obtain ⟨o, q, _⟩ := itH_obj h2; exact Heap.lt_size q
      rw [upd_ne (Nat.ne_of_lt hlt)]
      exact (hf c hcm).1
  done := by
    intro X hP hw hK hc i pins s σ H E I hf st hg
    subst hP hw hK
    obtain ⟨hz, hTI, ⟨x0, y0, hTO⟩, h1, h2, l1, l2⟩ := st
    obtain ⟨xs, ys, hqx, hqy, hn1, hn2, hend⟩ := hg
    obtain ⟨its, rv, p, _⟩ := inv_sq I hqx
    obtain ⟨its2, rv2, p2, _⟩ := inv_sq I hqy
    have m1 : its.toArray.size = n1 := by rw [List.size_toArray, ← rv.length]; exact hn1
    have m2 : its2.toArray.size = n2 := by rw [List.size_toArray, ← rv2.length]; exact hn2
    have D1 := drawsK (prog := X.prog) (w := X.w) (A := X.A.in1) k1 (I.ok.hd hc) i1 a ha its.toArray
    have D2 := drawsK (prog := X.prog) (w := X.w) (A := X.A.in1) k2 (I.ok.hd hc) i2 b hb its2.toArray
    exact wpAny_pyNext_zipD2_end S D1 D2 hz hTI hTO ⟨h1, p⟩ ⟨h2, p2⟩ (by omega) (by omega) (by omega) fun h' tk hk => ⟨rfl, I.turnedL (ch := [z, TI, TO, i1, i2]) (fun c o hb q =>
      hk c o (fun q' => hb (by simp [q'])) (fun q' => hb (by simp [q'])) (fun q' => hb (by simp [q'])) (fun q' => hb (by simp [q'])) q) hf⟩
  self := fun A i s Q E st h => wpAny_pyIter_zip st.1 h
/-- zip of two, lists or tuples -/
def iZipM (K : PySem.W.Frag) (ta : TA) : TI := fun σ H R => ta σ H fun vs H1 => ∃ k1 k2 a b xs ys, vs = [.ref a, .ref b] ∧ SqK k1 K H1 a xs ∧ SqK k2 K H1 b ys ∧ R (ItzM K k1 k2 a b xs.length ys.length) H1
theorem pi_zipM {X : Cx} {e e2 : Expr} {ta : TA} {p pos tpos : Pos} {elts : List Expr} {kk : Nat} (hg : Gl X "zip") (hm : X.mg "zip" = none) (ha : PA X [e, e2] ta)
    (hs : starEach [e, e2] X.env = (false, eval e X.env) :: starEach [e2] X.env) (hpl : (backTo pos (starEach [e2] X.env)).any (·.1) = false) :
    PI X (.Tuple elts kk tpos) (.Call (.Name "zip" p) [e, e2] [] pos) (iZipM X.K ta) := by
  constructor
  intro pins s σ H R I h
  refine Call_ (ld_blt I hg hm PyProof.Rows.boot_zip (PyProof.Rows.callWith_type1 (thn (ha.run pos pins s σ H _ I h) fun us s1 ⟨vs, H1, I1, r1, k1, k2, a, b, xs, ys, ex, hqx, hqy, q⟩ => ?_) hs hpl))
  subst ex
  cases r1 with
  | cons r rr =>
    cases rr with
    | cons r' rr =>
      cases rr
      cases r
      cases r'
      obtain ⟨its, rv, p1, lt1⟩ := inv_sq I1 hqx
      obtain ⟨its2, rv2, p2, lt2⟩ := inv_sq I1 hqy
      have old : ∀ c ∈ [s1.heap.objs.size + 4, s1.heap.objs.size + 2, s1.heap.objs.size + 3, s1.heap.objs.size, s1.heap.objs.size + 1], FpOk X pins H1 c := fun c hcm => by
        have hle : s1.heap.objs.size ≤ c := by
          have e' : c = s1.heap.objs.size + 4 ∨ c = s1.heap.objs.size + 2 ∨ c = s1.heap.objs.size + 3 ∨ c = s1.heap.objs.size ∨ c = s1.heap.objs.size + 1 := by simpa using hcm
          have hk : ∀ m : Nat, s1.heap.objs.size ≤ s1.heap.objs.size + m := fun m => Nat.le_add_right _ _
          rcases e' with e | e | e | e | e
          · rw [e]; exact hk 4
          · rw [e]; exact hk 2
          · rw [e]; exact hk 3
          · rw [e]; exact Nat.le_refl _
          · rw [e]; exact hk 1
        exact I1.fpOk hle (I1.hok.fresh hle)
      have S := zip_sep2 (N := s1.heap.objs.size) (fp1 := [a]) (fp2 := [b]) (fun c hc => by cases List.mem_singleton.mp hc; exact lt1) (fun c hc => by cases List.mem_singleton.mp hc; exact lt2)
      refine zip_begins2 (begK k1 a its.toArray) (begK k2 b its2.toArray) p1 p2 fun h' hz hTI hTO g1 g2 hsz hk => wpAny_pyIter_zip hz ?_
      exact ⟨_, _, _, _, H1, rfl, I1.kept (t' := s1.toks) hk, turn_zipM S (Nat.ne_of_lt lt1) (Nat.ne_of_lt (Nat.lt_succ_of_lt lt2)), ⟨hz, hTI, ⟨_, _, hTO⟩, itH_new g1, itH_new g2, Nat.zero_le _, Nat.zero_le _⟩, old, q⟩
section
variable {K : PySem.W.Frag} {Z0 : Hp} {a b : Addr} {xs ys : List V} {ds es : List D}
theorem walk_zipM {k1 k2 : Bool} {n : Nat} (hn : n = min xs.length ys.length) : Walk (ItzM K k1 k2 a b xs.length ys.length) n (fun H => SqK k1 K H a xs ∧ SqK k2 K H b ys) (YPair (fun i => xs[i]?) (fun i => ys[i]?)) := by
  subst hn
  refine ⟨fun i H hi q => ?_, fun H q => ⟨xs, ys, q.1, q.2, rfl, rfl, by omega⟩, fun i H v H' hi q y => ?_⟩
  · exact ⟨xs, ys, xs[i]'(by omega), ys[i]'(by omega), q.1, q.2, rfl, rfl, by simp, by simp⟩
  · obtain ⟨t, x, z, h1, h2, h3, h4, h5⟩ := y
    exact ⟨t, x, z, h1, h2, h3, h4 xs q.1, h5 ys q.2⟩
/-- a list or a tuple of the ghost heap -/
def obK (k : Bool) (xs : List V) : HO := match k with
  | true => .lst xs
  | false => .tup xs
theorem sqK_of {k : Bool} {H : Hp} (h : H a = some (obK k xs)) : SqK k K H a xs := by
  cases k
  · exact .inl (.inl h)
  · exact .inl (.inl h)
theorem walkOk_zipM {k1 k2 : Bool} (l : xs.length ≤ sizeLine) (h : Z0 a = some (obK k1 xs)) (h' : Z0 b = some (obK k2 ys)) (r : Rps K Z0 xs ds) (r' : Rps K Z0 ys es) : WalkOk K (ItzM K k1 k2 a b xs.length ys.length) Z0 (zipD ds es) := by
  refine ⟨by rw [zipD_length, ← r.length]; exact Nat.le_trans (Nat.min_le_left _ _) l, fun H => SqK k1 K H a xs ∧ SqK k2 K H b ys, _, by rw [zipD_length, ← r.length, ← r'.length]; exact walk_zipM rfl, fun Z H s1 s2 => ⟨sqK_of (s2 _ _ (s1 _ _ h)), sqK_of (s2 _ _ (s1 _ _ h'))⟩, fun i H x H' Z _ y s1 s2 => ?_⟩
  obtain ⟨t, u, v, rfl, ht, rfl, hu, hv⟩ := y
  obtain ⟨d, hd, rd⟩ := r.get hu
  obtain ⟨e, he, re⟩ := r'.get hv
  obtain ⟨g, q⟩ := pair_grow s2 ht (rd.mono s1) (re.mono s1)
  exact ⟨_, _, zipD_get hd he, g, q⟩
end
end Bide

set_option autoImplicit false
set_option Elab.async false
set_option maxRecDepth 100000
set_option linter.all false
set_option maxHeartbeats 8000000
/-! The soundness of expressions. -/
namespace Bide
open PySem L2
theorem mIt_noStar {N : List Str} {ren : String → String} {sc : Scope} {it : It} {tg py : Expr} (h : mIt N ren it sc tg py = true) : noStar py = true := by
  cases it with
  | seq e =>
    have h' : mE N ren e sc py = true := by simpa [mIt] using h
    exact mE_noStar h'
  | rng a => cases py <;> first | rfl | (exfalso; revert h; simp [mIt])
  | rng2 a b => cases py <;> first | rfl | (exfalso; revert h; simp [mIt])
  | enum a => cases py <;> first | rfl | (exfalso; revert h; cases tg <;> simp [mIt])
  | zip a b => cases py <;> first | rfl | (exfalso; revert h; cases tg <;> simp [mIt])
theorem kisE {K : PySem.W.Frag} {Z : Hp} {ks : List (Key × V)} {kvs : List (D × D)} (r : RpK K Z ks kvs) : ks.isEmpty = kvs.isEmpty := by
  cases r <;> rfl
/-- a value's truth, a dict's that is walked, too -/
def TruW (K : PySem.W.Frag) (x : V) (H : Hp) (k : Bool) : Prop := TruV K x H k ∨ ∃ p kvs, x = .ref p ∧ Rd H p (.dK kvs) ∧ k = !kvs.isEmpty
theorem pt_truW {X : Cx} {a : Expr} {ta : TE} (ha : PE X a ta) (he : ∀ whole, isTrue a X.env whole = (do let v ← whole; standAt a.pos; holding [v] (truthy v))) :
    PT X a (fun σ H Q => ta σ H fun x H' => ∃ k, TruW X.K x H' k ∧ Q k H') := by
  refine ⟨fun pins s σ H Q I h => ?_⟩
  refine PyProof.Rows.isTrue_plain (thn (ha.run pins s σ H _ I h) fun v s1 ⟨x, H1, I1, r1, k, tk, q1⟩ => ?_) (he _)
  rcases tk with tk | ⟨p, kvs, rfl, hp, rfl⟩
  · exact tru_ok pins s1 σ H1 x v Q I1 r1 ⟨k, tk, q1⟩
  · cases r1
    exact d_truth I1 hp fun s2 I2 => ⟨H1, I2, q1⟩
theorem truW_of {K : PySem.W.Frag} {Z H : Hp} {x : V} {d : D} {k : Bool} (s : Same Z H) (h : RdV K Z H x d) (e : truT d = some k) : TruW K x H k := by
  unfold truT at e
  split at e
  · obtain ⟨a, ks, rfl, h1, _, h3⟩ := h.dict s
    cases e
    exact .inr ⟨a, ks, rfl, h1, by rw [kisE h3]⟩
  · exact .inl (truth_of s h e)
theorem val_plain {e : E} {w : Wd} {k : Nat} {N : List Str} {fb : Str → Bool} {X : Cx} {py : Expr} (hX : XOk w k N fb X) (h1 : PE X py (semE w e)) (hpl : plainPy py = true) : PT X py (semT w (.val e)) := by
  refine ⟨fun pins s σ H Q I h => (pt_truW h1 (plain_of hpl)).run pins s σ H Q I ?_⟩
  obtain ⟨ev, Z, A, R, h⟩ := h
  simp only [evT] at h
  refine semE_mono (sub1 R h) fun x H1 ⟨r, e1, Z1, A1, s1, R1, q1, h1⟩ => ?_
  split at h1
  · rename_i d hd
    rw [hX.K]
    cases ht : truT d with
    | none => rw [ht] at h1; exact h1.elim
    | some b =>
      rw [ht] at h1
      exact ⟨b, truW_of R1.sub (R1.rdv q1 hd) ht, h1 H1 Z1 A1 (Same.refl _) R1⟩
  · exact h1.elim
theorem nsup_base {o : Expr} {nm : Str} {env : Env} {wh : Sem Value} (h : notSup o = true) : attributeBase o nm env wh = wh := by
  cases o <;> first | rfl | (cases h; done)
theorem ixD_ok {ds : List D} {d : D} {j : Nat} (h : ixD ds d = some j) : ∃ z, SeqAt.shaped (.list ds) = true ∧ SeqAt.shaped d = true ∧ ds[j]? = some z ∧ PyData.eqv z d = true ∧ ∀ (m : Nat) (z' : D), m < j → ds[m]? = some z' → PyData.eqv z' d = false := by
  unfold ixD at h
  split at h
  · rename_i hc
    obtain ⟨h1, h2, h3⟩ := List.findIdx?_eq_some_iff_getElem.mp h
    refine ⟨ds[j], hc.1, hc.2, List.getElem?_eq_getElem h1, h2, fun m z' hm hz => ?_⟩
    have hml : m < ds.length := by omega
    rw [List.getElem?_eq_getElem hml] at hz
    cases hz
    simpa using h3 m hm
  · cases h
theorem rdv_dp {K : PySem.W.Frag} {Z H : Hp} {x : V} {d : D} (s : Same Z H) (h : RdV K Z H x d) (c : d.canLay0 = true) : Dp K H x d := by
  cases d with
  | none => cases h.none; exact .non
  | bool b => cases h.bool; exact .bl _
  | int i => cases h.int; exact .int _
  | str x => cases h.str; exact .str _
  | list ds =>
    obtain ⟨a, xs, rfl, g1, g2, g3⟩ := h.list s
    exact .lst (.inl (.inl g1)) (g3.dp s (by simpa [PyData.canLay0] using c))
  | tuple ds =>
    obtain ⟨a, xs, rfl, g1, g2, g3⟩ := h.tuple s
    exact .tup (.inl (.inl g1)) (g3.dp s (by simpa [PyData.canLay0] using c))
  | dict kvs => simp [PyData.canLay0] at c
theorem rdv_isD {K : PySem.W.Frag} {Z H : Hp} {x : V} {t : Bool} {kvs : List (D × D)} (s : Same Z H) (h : RdV K Z H x (.dict ((.bool t, .none) :: kvs))) : ∃ a, x = .ref a ∧ IsD H a := by
  cases t with
  | false =>
    obtain ⟨a, ks, rfl, h1, _⟩ := h.dict s
    exact ⟨a, rfl, .inl ⟨ks, h1⟩⟩
  | true =>
    obtain ⟨a, ks, rfl, h1, _⟩ := h.dictT s
    exact ⟨a, rfl, .inr ⟨ks, h1⟩⟩
theorem items_rps {K : PySem.W.Frag} {Z H' : Hp} : ∀ {ks : List (Key × V)} {kvs : List (D × D)}, RpK K Z ks kvs → ∀ {ts : List Addr}, Paired (fun (t : Addr) (q : Key × V) => H' t = some (.tup [kV q.1, q.2])) ts ks → (∀ t ∈ ts, Z t = H' t) → Rps K Z (ts.map V.ref) (kvs.map fun kv => .tuple [kv.1, kv.2])
  | _, _, .nil, _, p, _ => by
    cases p
    exact .nil
  | _, _, .cons (k := k) rp rr, _, p, hz => by
    cases p with
    | cons h r =>
      refine .cons (.tup (xs := [kV k, _]) (by rw [hz _ (by simp)]; exact h) (by rw [sizeLine_eq]; simp) (.cons ?_ (.cons rp .nil))) (items_rps rr r (fun t' h' => hz t' (by simp [h'])))
      cases k with
      | inl i => exact .int i
      | inr x => exact .str x
theorem items_give {w : Wd} {σ : L2.St} {H Z H' : Hp} {ev : Ev} {A : Nat → List Addr} (R : RS w.K w.c σ H Z ev A) {Q : VK} {K : PySem.W.Frag} {c : En} (hK : w.K = K) (hc : w.c = c) {ks : List (Key × V)} {kvs : List (D × D)} {p : Addr} {ts : List Addr}
    (h : Out w σ Z (.ok (.f (.l (kvs.map fun kv => .tuple [kv.1, kv.2]))) ev) fun r ev' H' Z' A' => ∀ x, RR w.K w.c σ H' Z' ev' A' x r → Q x H') (hl : ks.length ≤ sizeLine) (hr : RpK w.K Z ks kvs) (k1 : ∀ b o, H b = some o → H' b = some o)
    (hp : H p = none) (ht : ∀ t ∈ ts, H t = none) (hpt : p ∉ ts) (hlp : H' p = some (.lst (ts.map V.ref))) (hts : Paired (fun (t : Addr) (q : Key × V) => H' t = some (.tup [kV q.1, q.2])) ts ks) : Q (.ref p) H' := by
  have zt : ∀ t ∈ ts, Z t = none := fun t h => (R.notin (ht t h)).1
  have s := addZ_same (H := H') zt
  have R' : RS w.K w.c σ H' (addZ Z H' ts) ev A := by
    refine R.ext s (fun b u e => ?_) (fun b u e => ?_) k1
    · by_cases hb : b ∈ ts
      · rw [addZ_in hb] at e; exact e
      · rw [addZ_out hb] at e; exact k1 b u (R.sub b u e)
    · by_cases hb : b ∈ ts
      · exact .inr (.inl (ht b hb))
      · rw [addZ_out hb] at e; exact .inl e
  have hlen : (ts.map V.ref).length ≤ sizeLine := by rw [List.length_map, Paired.length hts]; exact hl
  refine h H' (addZ Z H' ts) A s R' (.ref p) ⟨p, [p], rfl, ⟨rfl, _, hlp, hlen, items_rps (hr.mono s) hts (fun t h => addZ_in h)⟩, by simp, fun b hb => ?_⟩
  cases List.mem_singleton.mp hb
  obtain ⟨q1, q2, q3, q4⟩ := R.notin hp
  exact ⟨by rw [addZ_out hpt]; exact q1, q2, q3, q4⟩
theorem lco_turns {w : Wd} {σ : L2.St} {H Z : Hp} {ev evs : Ev} {A : Nat → List Addr} {own tg : List Nat} {tup : Bool} {cd : C} {e : E} {i : Nat} {ds xs : List D} {e2 : Ev} {Q : VK} (ho : ∀ i ∈ tg, i ∈ own) (R : RS w.K w.c σ H Z ev A) (hs : ev[i]? = some (.ow (.l ds))) (hw : wipeE (ev.set i .no) own = some evs)
    (hl : lcL own tg tup (evC w.cf cd) (evE w.cf e) ds [] (ev.set i .no) = .ok xs e2) (he : (unwipe (ev.set i .no) e2 own)[i]? = some .no)
    (h : Out w σ Z (.ok (.f (.l xs)) ((unwipe (ev.set i .no) e2 own).set i (.ow (.l ds)))) fun r ev' H' Z' A' => ∀ x, RR w.K w.c σ H' Z' ev' A' x r → Q x H') :
    iSeq w.K (tVar i) σ H fun J H => ∀ dA, H dA = none → ∃ W : Nat → Nat → Hp → Prop, (∃ m, W 0 m (upd H dA (.lst []))) ∧ ∀ i m H, W i m H →
      (J.stop i H ∧ Q (.ref dA) H) ∨ (J.go i H ∧ ∃ Nx : Hp → Prop, (∀ H', Nx H' → ∃ m', m' < m ∧ W (i + 1) m' H') ∧ ∀ x H', J.yld i H x H' → gTg w.K tup tg x (wipe σ own) H' fun σ2 H2 => wipe σ2 own = wipe σ own ∧ anyC w cd σ2 H2 fun b H3 =>
        if b = true then anyE w e σ2 H3 fun y H4 => ∃ acc, H4 dA = some (.lst acc) ∧ acc.length < sizeLine ∧ Nx (upd H4 dA (.lst (acc ++ [y]))) else Nx H3) := by
  obtain ⟨a, ea, e1, ys, g1, g2, g3⟩ := R.sl i _ hs
  have za : Z a = none := R.zo i a (by rw [e1]; simp)
  have oa : w.c.own a := R.ao i a (by rw [e1]; simp)
  have fa : w.c.F a = none := by
    cases q : w.c.F a with
    | none => rfl
    | some o => exact absurd (by rw [e1]; simp) ((R.pf a o q).2.2 i)
  have R0 := R.hide hs id
  have R1 := R0.hold (as := [a]) (fun p hp => by
    cases List.mem_singleton.mp hp
    refine ⟨by rw [g1]; simp, za, fun j hj => ?_⟩
    by_cases hji : j = i
    · subst hji; rw [setA_same] at hj; cases hj
    · rw [setA_ne hji] at hj
      exact hji (R.dis j i _ hj (by rw [e1]; simp))) (fun p hp zs hx => by
    cases List.mem_singleton.mp hp
    rw [g1] at hx; cases hx)
  have hF : (w.c.hold H [a]).F a = some (.lst ys) := by
    show addZ w.c.F H [a] a = _
    rw [addZ_in (by simp)]; exact g1
  refine ⟨.ref a, ea, a, rfl, .inl ⟨⟨ys, .inl (.inl g1)⟩, lc_turns (w := { w with c := w.c.hold H [a] }) ho (walkOk_own g2 hF g3) R1 hw hl fun H' Z' A' s' R' x rr => ?_⟩⟩
  obtain ⟨R2, k⟩ := RS.unhold R' fun p hp => by cases List.mem_singleton.mp hp; exact fa
  obtain ⟨k1, k2, k3⟩ := k a (by simp) _ g1
  have hi : i < (unwipe (ev.set i .no) e2 own).length := (List.getElem?_eq_some_iff.mp he).1
  have R3 : RS w.K w.c σ H' Z' ((unwipe (ev.set i .no) e2 own).set i (.ow (.l ds))) (setA A' i [a]) := by
    refine R2.slotNew hi rfl (fun _ _ => rfl) (Same.refl _) R2.sub (fun _ _ q => .inl q) (fun _ _ _ _ _ q => q) (fun _ _ _ _ q => q) (fun j _ b hb => R2.zo j b hb) ⟨a, ea, rfl, ys, k1, g2, g3.mono s'⟩
      (fun b hb => by cases List.mem_singleton.mp hb; exact k2) (fun b hb => by cases List.mem_singleton.mp hb; exact oa) (fun b hb j _ => by cases List.mem_singleton.mp hb; exact k3 j) (by simp)
      (.inl ⟨R2.noP he id, id⟩) (fun p o q => ⟨(R2.pf p o q).1, (R2.pf p o q).2.1, fun hb => by cases List.mem_singleton.mp hb; rw [fa] at q; cases q⟩)
  refine h H' Z' _ s' R3 x ?_
  obtain ⟨a1, as, q1, q2, q3, q4⟩ := rr
  refine ⟨a1, as, q1, q2, q3, fun b hb => ?_⟩
  obtain ⟨u1, u2, u3, u4⟩ := q4 b hb
  have hba : b ≠ a := fun q => by
    subst q
    rw [hF] at u3; cases u3
  refine ⟨u1, u2, ?_, fun j hj => ?_⟩
  · have : addZ w.c.F H [a] b = none := u3
    rwa [addZ_out (by simpa using hba)] at this
  · by_cases hji : j = i
    · subst hji
      rw [setA_same] at hj
      exact hba (List.mem_singleton.mp hj)
    · rw [setA_ne hji] at hj
      exact u4 j hj
mutual
theorem sndE : ∀ (e : E) {w : Wd} {k : Nat} {N : List Str} {fb : Str → Bool} {X : Cx} {py : Expr}, XOk w k N fb X → Takes X w.W → mE N w.ren e X.env.scope py = true → PE X py (semE w e)
  | .var i, w, k, N, fb, X, py, hX, tk, hm => by
    cases py <;> first | (exfalso; revert hm; simp [mE]; done) | skip
    simp only [mE] at hm
    refine ⟨fun pins s σ H Q I h => (rd_slot hX.N hm).run pins s σ H Q I ?_⟩
    obtain ⟨ev, Z, A, R, h⟩ := h
    simp only [evE] at h
    cases hs : ev[i]? with
    | none => rw [hs] at h; exact h.elim
    | some sv =>
      rw [hs] at h
      cases sv with
      | no => exact h.elim
      | sh d =>
        obtain ⟨_, v, e1, e2⟩ := R.sl i _ hs
        exact ⟨v, e1, h H Z A (Same.refl _) R v e2⟩
      | io ds =>
        obtain ⟨a, e1, e2⟩ := R.sl i _ hs
        exact ⟨.ref a, e1, h H Z A (Same.refl _) R _ e1⟩
      | ow o =>
        cases o with
        | l ds =>
          obtain ⟨a, e1, e2⟩ := R.sl i _ hs
          exact ⟨.ref a, e1, h H Z A (Same.refl _) R _ e1⟩
        | d t kvs =>
          obtain ⟨a, e1, e2⟩ := R.sl i _ hs
          exact ⟨.ref a, e1, h H Z A (Same.refl _) R _ e1⟩
        | ll dss =>
          obtain ⟨Z', x, e1, s1, R1, rp⟩ := R.share hs
          exact ⟨x, e1, h H Z' _ s1 R1 x rp⟩
  | .non, w, k, N, fb, X, py, hX, tk, hm => by
    cases py <;> first | (exfalso; revert hm; simp [mE]; done) | skip
    rename_i c _ _
    cases c <;> first | (exfalso; revert hm; simp [mE]; done) | skip
    refine ⟨fun pins s σ H Q I h => pe_non.run pins s σ H Q I ?_⟩
    obtain ⟨ev, Z, A, R, h⟩ := h
    exact fin_v R h .non
  | .bl b, w, k, N, fb, X, py, hX, tk, hm => by
    cases py <;> first | (exfalso; revert hm; simp [mE]; done) | skip
    rename_i c _ _
    cases c <;> first | (exfalso; revert hm; simp [mE]; done) | skip
    simp only [mE, beq_iff_eq] at hm
    subst hm
    refine ⟨fun pins s σ H Q I h => pe_bl.run pins s σ H Q I ?_⟩
    obtain ⟨ev, Z, A, R, h⟩ := h
    exact fin_v R h (.bl _)
  | .int i, w, k, N, fb, X, py, hX, tk, hm => by
    cases py <;> first | (exfalso; revert hm; simp [mE]; done) | skip
    rename_i c _ _
    cases c <;> first | (exfalso; revert hm; simp [mE]; done) | skip
    simp only [mE, beq_iff_eq] at hm
    subst hm
    refine ⟨fun pins s σ H Q I h => pe_int.run pins s σ H Q I ?_⟩
    obtain ⟨ev, Z, A, R, h⟩ := h
    exact fin_v R h (.int _)
  | .str x, w, k, N, fb, X, py, hX, tk, hm => by
    cases py <;> first | (exfalso; revert hm; simp [mE]; done) | skip
    rename_i c _ _
    cases c <;> first | (exfalso; revert hm; simp [mE]; done) | skip
    simp only [mE] at hm
    cases isN_eq hm
    refine ⟨fun pins s σ H Q I h => pe_str.run pins s σ H Q I ?_⟩
    obtain ⟨ev, Z, A, R, h⟩ := h
    exact fin_v R h (.str _)
  | .glo x, w, k, N, fb, X, py, hX, tk, hm => by
    cases py <;> first | (exfalso; revert hm; simp [mE]; done) | skip
    simp only [mE, Bool.and_eq_true] at hm
    obtain ⟨⟨h1, h2⟩, h3⟩ := hm
    cases isN_eq h1
    cases hg : w.cf.gl x with
    | none =>
      refine ⟨fun pins s σ H Q I h => ?_⟩
      obtain ⟨ev, Z, A, R, h⟩ := h
      simp only [evE, hg] at h
      exact h.elim
    | some d =>
      obtain ⟨v, u, g1, g2, g3⟩ := hX.gls x d hg
      refine ⟨fun pins s σ H Q I h => (pe_glob (glb_gl h2) g1 g2 (okN1 h3)).run pins s σ H Q I ?_⟩
      obtain ⟨ev, Z, A, R, h⟩ := h
      simp only [evE, hg] at h
      exact fin_v R h (hX.K ▸ g3 Z)
  | .bin o a b, w, k, N, fb, X, py, hX, tk, hm => by
    cases py <;> first | (exfalso; revert hm; simp [mE]; done) | skip
    simp only [mE, Bool.and_eq_true, decide_eq_true_eq] at hm
    obtain ⟨⟨rfl, ha⟩, hb⟩ := hm
    refine ⟨fun pins s σ H Q I h => (pe_op (bop_ok o) (sndE a hX tk ha) (sndE b hX tk hb)).run pins s σ H Q I ?_⟩
    obtain ⟨ev, Z, A, R, h⟩ := h
    simp only [evE] at h
    refine semE_mono (sub1 R h) fun x H1 ⟨r, e1, Z1, A1, s1, R1, q1, h1⟩ => semE_mono (sub1 R1 h1) fun y H2 ⟨q, e2, Z2, A2, s2, R2, q2, h2⟩ => ?_
    split at h2
    · rename_i d1 d2 hd1 hd2
      rw [rd_stl] at hd1
      rw [hX.K]
      cases hb : bop o d1 d2 with
      | none => rw [hb] at h2; exact h2.elim
      | some res =>
        rw [hb] at h2
        exact ⟨Z2, d1, d2, res, R2.sub, R2.rdv (q1.later s2) hd1, R2.rdv q2 hd2, hb, R2.give rfl rfl h2⟩
    · exact h2.elim
  | .neg a, w, k, N, fb, X, py, hX, tk, hm => by
    cases py <;> first | (exfalso; revert hm; simp [mE]; done) | skip
    rename_i op _ _
    cases op <;> first | (exfalso; revert hm; simp [mE]; done) | skip
    simp only [mE] at hm
    refine ⟨fun pins s σ H Q I h => (pe_un un_neg (sndE a hX tk hm)).run pins s σ H Q I ?_⟩
    obtain ⟨ev, Z, A, R, h⟩ := h
    simp only [evE] at h
    refine semE_mono (sub1 R h) fun x H1 ⟨r, e1, Z1, A1, s1, R1, q1, h1⟩ => ?_
    split at h1
    · rename_i i hd
      cases (R1.rdv q1 hd).int
      exact ⟨i, rfl, fin_v R1 h1 (.int _)⟩
    · exact h1.elim
  | .cmp o a b, w, k, N, fb, X, py, hX, tk, hm => by
    cases py <;> first | (exfalso; revert hm; simp [mE]; done) | skip
    rename_i l ops rs pos
    match ops, rs, hm with
    | [p], [r], hm =>
      simp only [mE, Bool.and_eq_true, decide_eq_true_eq] at hm
      obtain ⟨⟨rfl, ha⟩, hb⟩ := hm
      refine ⟨fun pins s σ H Q I h => (pe_cmpR (cop_ok hX.units o) (sndE a hX tk ha) (sndE b hX tk hb) (mark_of (mE_noStar hb))).run pins s σ H Q I ?_⟩
      obtain ⟨ev, Z, A, R, h⟩ := h
      simp only [evE] at h
      refine semE_mono (sub1 R h) fun x H1 ⟨r, e1, Z1, A1, s1, R1, q1, h1⟩ => semE_mono (sub1 R1 h1) fun y H2 ⟨q, e2, Z2, A2, s2, R2, q2, h2⟩ => ?_
      split at h2
      · rename_i d1 d2 hd1 hd2
        rw [rd_stl] at hd1
        rw [hX.K]
        split at h2
        · rename_i res hb
          exact ⟨Z2, d1, d2, res, R2.sub, R2.rdv (q1.later s2) hd1, R2.rdv q2 hd2, hb, fin_v R2 h2 (.bl _)⟩
        · exact h2.elim
      · exact h2.elim
    | [], _, hm => exact absurd hm (by simp [mE])
    | _ :: _ :: _, _, hm => exact absurd hm (by simp [mE])
    | [_], [], hm => exact absurd hm (by simp [mE])
    | [_], _ :: _ :: _, hm => exact absurd hm (by simp [mE])
  | .chn o p a b d, w, k, N, fb, X, py, hX, tk, hm => by
    cases py <;> first | (exfalso; revert hm; simp [mE]; done) | skip
    rename_i l ops rs pos
    match ops, rs, hm with
    | [o', p'], [m, r], hm =>
      simp only [mE, Bool.and_eq_true, decide_eq_true_eq] at hm
      obtain ⟨⟨⟨⟨rfl, rfl⟩, ha⟩, hb⟩, hd⟩ := hm
      refine ⟨fun pins s σ H Q I h => (pe_chain (cop_ok hX.units o) (cop_ok hX.units p) (sndE a hX tk ha) (sndE b hX tk hb) (sndE d hX tk hd) (mark_of (mE_noStar hd))).run pins s σ H Q I ?_⟩
      obtain ⟨ev, Z, A, R, h⟩ := h
      simp only [evE] at h
      refine semE_mono (sub1 R h) fun x H1 ⟨r, e1, Z1, A1, s1, R1, q1, h1⟩ => semE_mono (sub1 R1 h1) fun y H2 ⟨q, e2, Z2, A2, s2, R2, q2, h2⟩ => ?_
      split at h2
      · rename_i d1 d2 hd1 hd2
        rw [rd_stl] at hd1 hd2
        rw [hX.K]
        split at h2
        · rename_i hb
          refine ⟨Z2, d1, d2, true, R2.sub, R2.rdv (q1.later s2) hd1, R2.rdv q2 hd2, hb, true, rfl, ?_⟩
          rw [if_pos rfl]
          refine semE_mono (sub1 R2 h2) fun z H3 ⟨u, e3, Z3, A3, s3, R3, q3, h3⟩ => ?_
          split at h3
          · rename_i d3 d4 hd3 hd4
            rw [rd_stl] at hd3
            split at h3
            · rename_i res hb
              exact ⟨Z3, d3, d4, res, R3.sub, R3.rdv (q2.later s3) hd3, R3.rdv q3 hd4, hb, fin_v R3 h3 (.bl _)⟩
            · exact h3.elim
          · exact h3.elim
        · rename_i hb
          refine ⟨Z2, d1, d2, false, R2.sub, R2.rdv (q1.later s2) hd1, R2.rdv q2 hd2, hb, false, rfl, ?_⟩
          rw [if_neg (by simp)]
          exact fin_v R2 h2 (.bl _)
        · exact h2.elim
      · exact h2.elim
    | [], _, hm => exact absurd hm (by simp [mE])
    | [_], _, hm => exact absurd hm (by simp [mE])
    | _ :: _ :: _ :: _, _, hm => exact absurd hm (by simp [mE])
    | [_, _], [], hm => exact absurd hm (by simp [mE])
    | [_, _], [_], hm => exact absurd hm (by simp [mE])
    | [_, _], _ :: _ :: _ :: _, hm => exact absurd hm (by simp [mE])
  | .and a b, w, k, N, fb, X, py, hX, tk, hm => by
    cases py <;> first | (exfalso; revert hm; simp [mE]; done) | skip
    rename_i op vs pos
    cases op <;> first | (exfalso; revert hm; simp [mE]; done) | skip
    match vs, hm with
    | x :: y :: rest, hm =>
      simp only [mE, Bool.and_eq_true] at hm
      have hb : PE X (.BoolOp .And (y :: rest) pos) (semE w b) := by
        cases rest with
        | nil => exact pe_one (sndE b hX tk hm.2)
        | cons z rest => exact sndE b hX tk hm.2
      refine ⟨fun pins s σ H Q I h => (pe_andT (sndE a hX tk hm.1) hb).run pins s σ H Q I ?_⟩
      obtain ⟨ev, Z, A, R, h⟩ := h
      simp only [evE] at h
      refine semE_mono (sub1 R h) fun v H1 ⟨r, e1, Z1, A1, s1, R1, q1, h1⟩ => ?_
      split at h1
      · rename_i d hd
        rw [hX.K]
        have rv := R1.rdv q1 hd
        split at h1
        · rename_i ht
          refine ⟨true, truth_of R1.sub rv ht, ?_⟩
          rw [if_pos rfl]
          exact ⟨e1, Z1, A1, R1, h1⟩
        · rename_i ht
          refine ⟨false, truth_of R1.sub rv ht, ?_⟩
          rw [if_neg (by simp)]
          exact h1 H1 Z1 A1 (Same.refl _) R1 v q1
        · exact h1.elim
      · exact h1.elim
    | [], hm => exact absurd hm (by simp [mE])
    | [_], hm => exact absurd hm (by simp [mE])
  | .or a b, w, k, N, fb, X, py, hX, tk, hm => by
    cases py <;> first | (exfalso; revert hm; simp [mE]; done) | skip
    rename_i op vs pos
    cases op <;> first | (exfalso; revert hm; simp [mE]; done) | skip
    match vs, hm with
    | x :: y :: rest, hm =>
      simp only [mE, Bool.and_eq_true] at hm
      have hb : PE X (.BoolOp .Or (y :: rest) pos) (semE w b) := by
        cases rest with
        | nil => exact pe_one (sndE b hX tk hm.2)
        | cons z rest => exact sndE b hX tk hm.2
      refine ⟨fun pins s σ H Q I h => (pe_orT (sndE a hX tk hm.1) hb).run pins s σ H Q I ?_⟩
      obtain ⟨ev, Z, A, R, h⟩ := h
      simp only [evE] at h
      refine semE_mono (sub1 R h) fun v H1 ⟨r, e1, Z1, A1, s1, R1, q1, h1⟩ => ?_
      split at h1
      · rename_i d hd
        rw [hX.K]
        have rv := R1.rdv q1 hd
        split at h1
        · rename_i ht
          refine ⟨false, truth_of R1.sub rv ht, ?_⟩
          rw [if_neg (by simp)]
          exact ⟨e1, Z1, A1, R1, h1⟩
        · rename_i ht
          refine ⟨true, truth_of R1.sub rv ht, ?_⟩
          rw [if_pos rfl]
          exact h1 H1 Z1 A1 (Same.refl _) R1 v q1
        · exact h1.elim
      · exact h1.elim
    | [], hm => exact absurd hm (by simp [mE])
    | [_], hm => exact absurd hm (by simp [mE])
  | .not a, w, k, N, fb, X, py, hX, tk, hm => by
    cases py <;> first | (exfalso; revert hm; simp [mE]; done) | skip
    rename_i op _ _
    cases op <;> first | (exfalso; revert hm; simp [mE]; done) | skip
    simp only [mE] at hm
    refine ⟨fun pins s σ H Q I h => (pe_notT (sndE a hX tk hm)).run pins s σ H Q I ?_⟩
    obtain ⟨ev, Z, A, R, h⟩ := h
    simp only [evE] at h
    refine semE_mono (sub1 R h) fun x H1 ⟨r, e1, Z1, A1, s1, R1, q1, h1⟩ => ?_
    split at h1
    · rename_i d hd
      rw [hX.K]
      split at h1
      · rename_i b ht
        exact ⟨b, truth_of R1.sub (R1.rdv q1 hd) ht, fin_v R1 h1 (.bl _)⟩
      · exact h1.elim
    · exact h1.elim
  | .ife t a b, w, k, N, fb, X, py, hX, tk, hm => by
    cases py <;> first | (exfalso; revert hm; simp [mE]; done) | skip
    simp only [mE, Bool.and_eq_true] at hm
    refine ⟨fun pins s σ H Q I h => (pe_ifExp (sndT t hX tk hm.1.1) (sndE a hX tk hm.1.2) (sndE b hX tk hm.2)).run pins s σ H Q I ?_⟩
    obtain ⟨ev, Z, A, R, h⟩ := h
    simp only [evE] at h
    refine semT_mono (subT R h) fun v H1 ⟨e1, Z1, A1, s1, R1, h1⟩ => ?_
    cases v with
    | true => exact if_pos rfl ▸ ⟨e1, Z1, A1, R1, h1⟩
    | false => rw [if_neg (by simp)]; exact ⟨e1, Z1, A1, R1, h1⟩
  | .tup es, w, k, N, fb, X, py, hX, tk, hm => by
    cases py <;> first | (exfalso; revert hm; simp [mE]; done) | skip
    simp only [mE] at hm
    refine ⟨fun pins s σ H Q I h => (pe_tup (sndEs es hX tk hm)).run pins s σ H Q I ?_⟩
    obtain ⟨ev, Z, A, R, h⟩ := h
    simp only [evE] at h
    refine semEs_mono (subEs R h) fun xs H1 ⟨rs, e1, Z1, A1, s1, R1, q1, h1⟩ => ?_
    split at h1
    · rename_i ds e2 hes
      obtain ⟨Z2, A2, s2, R2, rp⟩ := R1.escs q1 hes
      split at h1
      · rename_i hl
        rw [line_eq, ← rp.length] at hl
        refine ⟨hl, fun p hp => ?_⟩
        exact Give.tup R2.sub (R2.give rfl rfl (Out.same h1 s2)) hl rp hp
      · exact h1.elim
    · exact h1.elim
  | .lst es, w, k, N, fb, X, py, hX, tk, hm => by
    cases py <;> first | (exfalso; revert hm; simp [mE]; done) | skip
    simp only [mE] at hm
    refine ⟨fun pins s σ H Q I h => (pe_lst (sndEs es hX tk hm)).run pins s σ H Q I ?_⟩
    obtain ⟨ev, Z, A, R, h⟩ := h
    simp only [evE] at h
    refine semEs_mono (subEs R h) fun xs H1 ⟨rs, e1, Z1, A1, s1, R1, q1, h1⟩ => ?_
    split at h1
    · rename_i ds e2 hes
      obtain ⟨Z2, A2, s2, R2, rp⟩ := R1.escs q1 hes
      split at h1
      · rename_i hl
        rw [line_eq, ← rp.length] at hl
        refine ⟨hl, fun p hp => ?_⟩
        exact Give.lst R2.sub (R2.give rfl rfl (Out.same h1 s2)) hl rp hp
      · exact h1.elim
    · exact h1.elim
  | .dnew t, w, k, N, fb, X, py, hX, tk, hm => by
    cases py <;> first | (exfalso; revert hm; simp [mE]; done) | skip
    rename_i ks vs pos
    match ks, vs, hm with
    | [], [], hm =>
      refine ⟨fun pins s σ H Q I h => ?_⟩
      obtain ⟨ev, Z, A, R, h⟩ := h
      simp only [evE] at h
      have g := R.give rfl rfl h
      cases t with
      | false => exact pe_dnewK.run pins s σ H Q I fun p hp => g.dct R.sub hp
      | true => exact pe_dnewT.run pins s σ H Q I fun p hp => g.dct R.sub hp
    | _ :: _, _, hm => exact absurd hm (by simp [mE])
    | [], _ :: _, hm => exact absurd hm (by simp [mE])
  | .idx a b, w, k, N, fb, X, py, hX, tk, hm => by
    cases py <;> first | (exfalso; revert hm; simp [mE]; done) | skip
    simp only [mE, Bool.and_eq_true] at hm
    refine ⟨fun pins s σ H Q I h => (pe_ix (ix_list.or ix_tup) (sndE a hX tk hm.1) (sndE b hX tk hm.2) (sub_of (mE_noStar hm.2))).run pins s σ H Q I ?_⟩
    obtain ⟨ev, Z, A, R, h⟩ := h
    simp only [evE] at h
    refine semE_mono (sub1 R h) fun x H1 ⟨r, e1, Z1, A1, s1, R1, q1, h1⟩ => semE_mono (sub1 R1 h1) fun y H2 ⟨q, e2, Z2, A2, s2, R2, q2, h2⟩ => ?_
    split at h2
    · rename_i d1 d2 hd1 hd2
      rw [rd_stl] at hd1
      have r1 := R2.rdv (q1.later s2) hd1
      have r2 := R2.rdv q2 hd2
      split at h2
      · rename_i d hi
        cases d1 <;> (first | (simp [idxD] at hi; done) | skip) <;> cases d2 <;> (first | (simp [idxD] at hi; done) | skip)
        · simp only [idxD] at hi
          cases r2.int
          obtain ⟨p, xs, rfl, g1, g2, g3⟩ := r1.list R2.sub
          obtain ⟨v, hv, rv⟩ := g3.atD hi
          exact .inl ⟨p, xs, _, v, rfl, rfl, .inl (.inl g1), hv, fin_v R2 h2 rv⟩
        · simp only [idxD] at hi
          cases r2.int
          obtain ⟨p, xs, rfl, g1, g2, g3⟩ := r1.tuple R2.sub
          obtain ⟨v, hv, rv⟩ := g3.atD hi
          exact .inr ⟨p, xs, _, v, rfl, rfl, .inl (.inl g1), hv, fin_v R2 h2 rv⟩
      · exact h2.elim
    · exact h2.elim
  | .idx2 i a j, w, k, N, fb, X, py, hX, tk, hm => by
    cases py <;> first | (exfalso; revert hm; simp [mE]; done) | skip
    rename_i l r pos
    cases l <;> first | (exfalso; revert hm; simp [mE]; done) | skip
    rename_i l m pos'
    cases l <;> first | (exfalso; revert hm; simp [mE]; done) | skip
    cases r <;> first | (exfalso; revert hm; simp [mE]; done) | skip
    simp only [mE, Bool.and_eq_true] at hm
    refine ⟨fun pins s σ H Q I h => (pe_ix ix_list (pe_ix ix_list (rd_slot hX.N hm.1.1) (sndE a hX tk hm.1.2) (sub_of (mE_noStar hm.1.2))) (rd_slot hX.N hm.2) (fun _ _ => rfl)).run pins s σ H Q I ?_⟩
    obtain ⟨ev, Z, A, R, h⟩ := h
    simp only [evE] at h
    split at h
    · rename_i xs0 h0
      obtain ⟨_, a0, bs0, e0, _⟩ := ll_spot R h0
      refine ⟨.ref a0, e0, semE_mono (sub1 R h) fun y H1 ⟨r, e1, Z1, A1, s1, R1, q1, h1⟩ => ?_⟩
      split at h1
      · rename_i m xss n hd hl hj
        obtain ⟨_, a1, bs, e1', e2', g1, g2, g3, g4⟩ := ll_spot R1 hl
        rw [e0] at e1'
        cases e1'
        cases (R1.rdv q1 hd).int
        split at h1
        · rename_i xs hx
          obtain ⟨k, b, ys, _, _, _, w1, w2, w3, w4⟩ := ll_at g3 g4 hx
          split at h1
          · rename_i d hxd
            obtain ⟨v, hv, rv⟩ := w4.atD hxd
            have hσj : ∃ x, σ[j]? = some (some x) ∧ RdV w.K Z1 H1 x (.int n) := by
              cases hsj : e1[j]? with
              | none => simp only [rd, hsj] at hj; cases hj
              | some sv =>
                have q := R1.sl j sv hsj
                have hx : ∃ x, σ[j]? = some (some x) := by
                  cases sv with
                  | no => simp only [rd, hsj] at hj; cases hj
                  | sh d => obtain ⟨_, v, q, _⟩ := q; exact ⟨v, q⟩
                  | ow o => obtain ⟨a, q, _⟩ := q; exact ⟨_, q⟩
                  | io ds => obtain ⟨a, q, _⟩ := q; exact ⟨_, q⟩
                obtain ⟨x, hx⟩ := hx
                exact ⟨x, hx, R1.rdv (r := .s j) hx hj⟩
            obtain ⟨x, hx, rx⟩ := hσj
            cases rx.int
            exact ⟨a0, _, _, _, rfl, rfl, .inl (.inl g1), w1, _, hx, b, ys, _, v, rfl, rfl, .inl (.inl w2), hv, fin_v R1 h1 rv⟩
          · exact h1.elim
        · exact h1.elim
      · exact h1.elim
    · exact h.elim
  | .slc a lo hi, w, k, N, fb, X, py, hX, tk, hm => by
    cases py <;> first | (exfalso; revert hm; simp [mE]; done) | skip
    rename_i l sl pos
    cases sl <;> first | (exfalso; revert hm; simp [mE]; done) | skip
    rename_i x y st pos'
    cases st <;> first | (exfalso; revert hm; simp [mE]; done) | skip
    simp only [mE, Bool.and_eq_true] at hm
    refine ⟨fun pins s σ H Q I h => (pe_slice (sl_list.or sl_tupA) (sndE a hX tk hm.1.1) (sndO lo hX tk hm.1.2) (sndO hi hX tk hm.2)).run pins s σ H Q I ?_⟩
    obtain ⟨ev, Z, A, R, h⟩ := h
    simp only [evE] at h
    refine semE_mono (sub1 R h) fun v H1 ⟨r, e1, Z1, A1, s1, R1, q1, h1⟩ => semO_mono (subO R1 h1) fun x H2 ⟨e2, Z2, A2, s2, R2, h2⟩ => semO_mono (subO R2 h2) fun y H3 ⟨e3, Z3, A3, s3, R3, h3⟩ => ?_
    split at h3
    · rename_i d hd
      rw [rd_stl] at hd
      have r1 := R3.rdv (q1.later (s2.trans s3)) hd
      cases hs : slcD d x y with
      | none => rw [hs] at h3; exact h3.elim
      | some res =>
        rw [hs] at h3
        have g := R3.give rfl rfl h3
        cases d <;> (simp only [slcD] at hs) <;> cases hs
        · obtain ⟨p, xs, rfl, g1, g2, g3⟩ := r1.list R3.sub
          exact .inl ⟨p, xs, rfl, .inl (.inl g1), fun p' hp => g.lst R3.sub (Nat.le_trans (cutV_length _ _ _) g2) (g3.cut x y) hp⟩
        · obtain ⟨p, xs, rfl, g1, g2, g3⟩ := r1.tuple R3.sub
          refine .inr ⟨p, xs, rfl, .inl (.inl g1), fun z => ?_, fun _ p' hp => g.tup R3.sub (Nat.le_trans (cutV_length _ _ _) g2) (g3.cut x y) hp⟩
          have e1 : cutV xs x y = xs := by
            unfold cutV
            rw [z.1, z.2, List.drop_zero, Nat.sub_zero, List.take_length]
          have c := g3.cut x y
          rw [e1] at c
          exact g.v R3.sub (.tup (by
            rcases r1 with r1 | ⟨_, _, ⟨_, _, e, _⟩ | ⟨_, _, e, _⟩ | ⟨_, _, e, _⟩⟩
            · cases r1 with
              | tup w1 w2 w3 =>
                have := R3.sub _ _ w1
                rw [g1] at this
                cases this
                exact w1
            all_goals cases e) g2 c)
    · exact h3.elim
  | .dget a b, w, k, N, fb, X, py, hX, tk, hm => by
    cases py <;> first | (exfalso; revert hm; simp [mE]; done) | skip
    simp only [mE, Bool.and_eq_true] at hm
    refine ⟨fun pins s σ H Q I h => (pe_dget (by have := hX.units; omega) (sndE a hX tk hm.1) (sndE b hX tk hm.2) (sub_of (mE_noStar hm.2))).run pins s σ H Q I ?_⟩
    obtain ⟨ev, Z, A, R, h⟩ := h
    simp only [evE] at h
    refine semE_mono (sub1 R h) fun x H1 ⟨r, e1, Z1, A1, s1, R1, q1, h1⟩ => semE_mono (sub1 R1 h1) fun y H2 ⟨q, e2, Z2, A2, s2, R2, q2, h2⟩ => ?_
    split at h2
    · rename_i tt kvs kk hd1 hd2
      rw [rd_stl] at hd1
      have r1 := R2.rdv (q1.later s2) hd1
      have r2 := R2.rdv q2 hd2
      split at h2
      · rename_i d hg
        split at hg
        · rename_i hok
          obtain ⟨p, o, rfl, dg, ho⟩ := dget_of R2.sub r1 r2 hok
          rcases ho with ⟨_, e⟩ | ⟨v, d', rfl, e, rp⟩
          · rw [e] at hg; cases hg
          · rw [e] at hg
            cases hg
            exact ⟨p, v, rfl, dg, fin_v R2 h2 rp⟩
        · cases hg
      · exact h2.elim
    · exact h2.elim
  | .call f es, w, k, N, fb, X, py, hX, tk, hm => by
    cases py <;> first | (exfalso; revert hm; simp [mE]; done) | skip
    rename_i fn as kws pos
    cases fn <;> first | (exfalso; revert hm; simp [mE]; done) | skip
    rename_i x pos'
    match as, kws, hm with
    | y :: ys, [], hm =>
      simp only [mE, Bool.and_eq_true] at hm
      obtain ⟨⟨⟨h1, h2⟩, h3⟩, h4⟩ := hm
      cases isN_eq h1
      cases hg : w.cf.G f with
      | none =>
        refine ⟨fun pins s σ H Q I h => ?_⟩
        obtain ⟨ev, Z, A, R, h⟩ := h
        simp only [evE, hg] at h
        exact h.elim
      | some F =>
        obtain ⟨a, fd, ps, g1, g2, g3, g4⟩ := hX.fns f F hg
        have st : noStar y = true := by
          cases es with
          | nil => simp [mEs] at h4
          | cons e es => simp only [mEs, Bool.and_eq_true] at h4; exact mE_noStar h4.1
        have sp : (backTo pos (starEach ys X.env)).any (·.1) = false := by
          cases es with
          | nil => simp [mEs] at h4
          | cons e es => simp only [mEs, Bool.and_eq_true] at h4; exact mEs_star h4.2
        refine ⟨fun pins s σ H Q I h => (pe_callS (E := WE w.W) g4 hX.room (glb_gl h2) g1 g2 g3 (passAt tk) (sndEs es hX tk h4) (okN1 h3) (star_of st) sp).run pins s σ H Q I ?_⟩
        obtain ⟨ev, Z, A, R, h⟩ := h
        simp only [evE, hg] at h
        refine semEs_mono (subEs R h) fun xs H1 ⟨rs, e1, Z1, A1, s1, R1, q1, h1⟩ => ?_
        split at h1
        · rename_i ds ls e2 hl
          obtain ⟨Z2, A2, P, s2, R2, ar, lt⟩ := R1.lend 0 q1 hl
          rw [hX.K]
          refine ⟨Z2, ds, P, R2.sub, ar, ?_⟩
          cases hr : F.run ds with
          | bad => rw [hr] at h1; exact h1.elim
          | ex x' =>
            rw [hr] at h1
            simp only at h1
            split at h1
            · rename_i hls
              intro cls dd H' Z' p ex
              have e0 : ls = [] := by simpa using hls
              subst e0
              have eP : P = [] := by
                cases P with
                | nil => rfl
                | cons _ _ => exact lt.elim
              subst eP
              exact h1 H' Z' A2 cls dd (s2.trans p.zz) (R2.ext p.zz p.sub p.zf fun q u e => p.fr q u e (fun i hi => by cases hi)) ex
            · exact h1.elim
          | ok r outs =>
            rw [hr] at h1
            simp only at h1
            split at h1
            · rename_i e3 hb
              intro x' H' Z' p o n
              exact h1 H' Z' A2 (s2.trans p.zz) (R2.called lt p o hb) x' (R2.newR n)
            · exact h1.elim
        · exact h1.elim
    | [], _, hm => exact absurd hm (by simp [mE])
    | _ :: _, _ :: _, hm => exact absurd hm (by simp [mE])
  | .blt f es, w, k, N, fb, X, py, hX, tk, hm => by
    cases py <;> first | (exfalso; revert hm; simp [mE]; done) | skip
    rename_i fn as kws pos
    cases fn <;> first | (exfalso; revert hm; simp [mE]; done) | skip
    rename_i x pos'
    match as, kws, hm with
    | y :: ys, [], hm =>
      simp only [mE, Bool.and_eq_true] at hm
      obtain ⟨⟨h1, h2⟩, h4⟩ := hm
      have st : noStar y = true := by
        cases es with
        | nil => simp [mEs] at h4
        | cons e es => simp only [mEs, Bool.and_eq_true] at h4; exact mE_noStar h4.1
      have sp : (backTo pos (starEach ys X.env)).any (·.1) = false := by
        cases es with
        | nil => simp [mEs] at h4
        | cons e es => simp only [mEs, Bool.and_eq_true] at h4; exact mEs_star h4.2
      have hx := isN_eq h1
      refine ⟨fun pins s σ H Q I h => (pe_blt f hX.calm hX.units hx (glb_gl h2) (hx ▸ hX.blt _ (blt_mem f)) (sndEs es hX tk h4) (star_of st) sp).run pins s σ H Q I ?_⟩
      obtain ⟨ev, Z, A, R, h⟩ := h
      simp only [evE] at h
      refine semEs_mono (subEs R h) fun xs H1 ⟨rs, e1, Z1, A1, s1, R1, q1, h1⟩ => ?_
      split at h1
      · rename_i ds hd
        rw [hX.K]
        cases hb : blt f ds with
        | none => rw [hb] at h1; exact h1.elim
        | some res =>
          rw [hb] at h1
          exact ⟨Z1, ds, res, R1.sub, R1.rds q1 hd, hb, R1.give rfl rfl h1⟩
      · exact h1.elim
    | [], _, hm => exact absurd hm (by simp [mE])
    | _ :: _, _ :: _, hm => exact absurd hm (by simp [mE])
  | .lrg a, w, k, N, fb, X, py, hX, tk, hm => by
    cases py <;> first | (exfalso; revert hm; simp [mE]; done) | skip
    rename_i fn as kws pos
    cases fn <;> first | (exfalso; revert hm; simp [mE]; done) | skip
    match as, kws, hm with
    | [], _, hm => exact absurd hm (by simp [mE])
    | _ :: _ :: _, _, hm => exact absurd hm (by simp [mE])
    | [y], _ :: _, hm => exact absurd hm (by simp [mE])
    | [y], [], hm =>
      cases y <;> first | (exfalso; revert hm; simp [mE]; done) | skip
      rename_i fn2 as2 kws2 pos2
      cases fn2 <;> first | (exfalso; revert hm; simp [mE]; done) | skip
      match as2, kws2, hm with
      | [], _, hm => exact absurd hm (by simp [mE])
      | _ :: _ :: _, _, hm => exact absurd hm (by simp [mE])
      | [l], _ :: _, hm => exact absurd hm (by simp [mE])
      | [l], [], hm =>
        simp only [mE, Bool.and_eq_true] at hm
        obtain ⟨⟨⟨⟨h1, h2⟩, h3⟩, h4⟩, h5⟩ := hm
        cases isN_eq h1
        cases isN_eq h3
        refine ⟨fun pins s σ H Q I h => (pe_listRg hX.calm (glb_gl h2) (hX.blt "list" (by decide)) (prg_1 (glb_gl h4) (hX.blt "range" (by decide)) (sndE a hX tk h5) (star_of (mE_noStar h5))) rfl).run pins s σ H Q I ?_⟩
        obtain ⟨ev, Z, A, R, h⟩ := h
        simp only [evE] at h
        refine semE_mono (sub1 R h) fun x H1 ⟨r, e1, Z1, A1, s1, R1, q1, h1⟩ => ?_
        split at h1
        · rename_i n hd
          cases (R1.rdv q1 hd).int
          split at h1
          · rename_i hn
            have hn2 : n ≤ 16777216 := hn.2
            have g := R1.give rfl rfl h1
            refine ⟨n, rfl, ⟨by omega, by omega, by omega, by omega, by omega⟩, fun q hq => ?_⟩
            refine g.lst R1.sub ?_ ?_ hq
            · rw [rgV_length, sizeLine_eq]; omega
            · unfold rgV rngD
              rw [Int.sub_zero]
              have key : ∀ l : List Nat, Rps w.K Z1 (l.map fun (i : Nat) => V.int (0 + (i : Nat))) (l.map fun (i : Nat) => PyData.int (0 + (i : Nat))) := by
                intro l
                induction l with
                | nil => exact .nil
                | cons i l ih => exact .cons (.int _) ih
              exact key _
          · exact h1.elim
        · exact h1.elim
  | .lrg2 a b, w, k, N, fb, X, py, hX, tk, hm => by
    cases py <;> first | (exfalso; revert hm; simp [mE]; done) | skip
    rename_i fn as kws pos
    cases fn <;> first | (exfalso; revert hm; simp [mE]; done) | skip
    match as, kws, hm with
    | [], _, hm => exact absurd hm (by simp [mE])
    | _ :: _ :: _, _, hm => exact absurd hm (by simp [mE])
    | [y], _ :: _, hm => exact absurd hm (by simp [mE])
    | [y], [], hm =>
      cases y <;> first | (exfalso; revert hm; simp [mE]; done) | skip
      rename_i fn2 as2 kws2 pos2
      cases fn2 <;> first | (exfalso; revert hm; simp [mE]; done) | skip
      match as2, kws2, hm with
      | [], _, hm => exact absurd hm (by simp [mE])
      | [_], _, hm => exact absurd hm (by simp [mE])
      | _ :: _ :: _ :: _, _, hm => exact absurd hm (by simp [mE])
      | [_, _], _ :: _, hm => exact absurd hm (by simp [mE])
      | [l, m], [], hm =>
        simp only [mE, Bool.and_eq_true] at hm
        obtain ⟨⟨⟨⟨⟨h1, h2⟩, h3⟩, h4⟩, h5⟩, h6⟩ := hm
        cases isN_eq h1
        cases isN_eq h3
        have st := star_of (env := X.env) (es := []) (mE_noStar h6)
        have st2 := star_of (env := X.env) (es := [m]) (mE_noStar h5)
        refine ⟨fun pins s σ H Q I h => (pe_listRg hX.calm (glb_gl h2) (hX.blt "list" (by decide)) (prg_2 (glb_gl h4) (hX.blt "range" (by decide)) (sndE a hX tk h5) (sndE b hX tk h6) st2 st (by rw [st]; rfl)) rfl).run pins s σ H Q I ?_⟩
        obtain ⟨ev, Z, A, R, h⟩ := h
        simp only [evE] at h
        refine semE_mono (sub1 R h) fun x H1 ⟨r, e1, Z1, A1, s1, R1, q1, h1⟩ => semE_mono (sub1 R1 h1) fun y H2 ⟨q, e2, Z2, A2, s2, R2, q2, h2⟩ => ?_
        split at h2
        · rename_i i j hd1 hd2
          rw [rd_stl] at hd1
          cases (R2.rdv (q1.later s2) hd1).int
          cases (R2.rdv q2 hd2).int
          split at h2
          · rename_i hn
            have hn2 : j - i ≤ 16777216 := hn.2.2.2.2
            have g := R2.give rfl rfl h2
            refine ⟨i, j, rfl, rfl, ⟨by omega, by omega, by omega, by omega, by omega⟩, fun q hq => ?_⟩
            refine g.lst R2.sub ?_ ?_ hq
            · rw [rgV_length, sizeLine_eq]; omega
            · unfold rgV rngD
              have key : ∀ l : List Nat, Rps w.K Z2 (l.map fun (z : Nat) => V.int (i + (z : Nat))) (l.map fun (z : Nat) => PyData.int (i + (z : Nat))) := by
                intro l
                induction l with
                | nil => exact .nil
                | cons i l ih => exact .cons (.int _) ih
              exact key _
          · exact h2.elim
        · exact h2.elim
  | .trg a, w, k, N, fb, X, py, hX, tk, hm => by
    cases py <;> first | (exfalso; revert hm; simp [mE]; done) | skip
    rename_i fn as kws pos
    cases fn <;> first | (exfalso; revert hm; simp [mE]; done) | skip
    match as, kws, hm with
    | [], _, hm => exact absurd hm (by simp [mE])
    | _ :: _ :: _, _, hm => exact absurd hm (by simp [mE])
    | [y], _ :: _, hm => exact absurd hm (by simp [mE])
    | [y], [], hm =>
      cases y <;> first | (exfalso; revert hm; simp [mE]; done) | skip
      rename_i fn2 as2 kws2 pos2
      cases fn2 <;> first | (exfalso; revert hm; simp [mE]; done) | skip
      match as2, kws2, hm with
      | [], _, hm => exact absurd hm (by simp [mE])
      | _ :: _ :: _, _, hm => exact absurd hm (by simp [mE])
      | [l], _ :: _, hm => exact absurd hm (by simp [mE])
      | [l], [], hm =>
        simp only [mE, Bool.and_eq_true] at hm
        obtain ⟨⟨⟨⟨h1, h2⟩, h3⟩, h4⟩, h5⟩ := hm
        cases isN_eq h1
        cases isN_eq h3
        refine ⟨fun pins s σ H Q I h => (pe_tupRg hX.calm (glb_gl h2) (hX.blt "tuple" (by decide)) (prg_1 (glb_gl h4) (hX.blt "range" (by decide)) (sndE a hX tk h5) (star_of (mE_noStar h5))) rfl).run pins s σ H Q I ?_⟩
        obtain ⟨ev, Z, A, R, h⟩ := h
        simp only [evE] at h
        refine semE_mono (sub1 R h) fun x H1 ⟨r, e1, Z1, A1, s1, R1, q1, h1⟩ => ?_
        split at h1
        · rename_i n hd
          cases (R1.rdv q1 hd).int
          split at h1
          · rename_i hn
            have hn2 : n ≤ 16777216 := hn.2
            have g := R1.give rfl rfl h1
            refine ⟨n, rfl, ⟨by omega, by omega, by omega, by omega, by omega⟩, fun q hq => ?_⟩
            refine g.tup R1.sub ?_ ?_ hq
            · rw [rgV_length, sizeLine_eq]; omega
            · unfold rgV rngD
              rw [Int.sub_zero]
              have key : ∀ l : List Nat, Rps w.K Z1 (l.map fun (i : Nat) => V.int (0 + (i : Nat))) (l.map fun (i : Nat) => PyData.int (0 + (i : Nat))) := by
                intro l
                induction l with
                | nil => exact .nil
                | cons i l ih => exact .cons (.int _) ih
              exact key _
          · exact h1.elim
        · exact h1.elim
  | .rev a, w, k, N, fb, X, py, hX, tk, hm => by
    cases py <;> first | (exfalso; revert hm; simp [mE]; done) | skip
    rename_i l sl pos
    cases sl <;> first | (exfalso; revert hm; simp [mE]; done) | skip
    rename_i x y st pos'
    cases x <;> first | (exfalso; revert hm; simp [mE]; done) | skip
    cases y <;> first | (exfalso; revert hm; simp [mE]; done) | skip
    cases st <;> first | (exfalso; revert hm; simp [mE]; done) | skip
    rename_i st
    cases st <;> first | (exfalso; revert hm; simp [mE]; done) | skip
    rename_i uo ua upos
    cases uo <;> first | (exfalso; revert hm; simp [mE]; done) | skip
    cases ua <;> first | (exfalso; revert hm; simp [mE]; done) | skip
    rename_i cc ck cpos
    cases cc <;> first | (exfalso; revert hm; simp [mE]; done) | skip
    simp only [mE, Bool.and_eq_true, decide_eq_true_eq] at hm
    obtain ⟨hz, hm⟩ := hm
    subst hz
    refine ⟨fun pins s σ H Q I h => (pe_rev (sndE a hX tk hm)).run pins s σ H Q I ?_⟩
    obtain ⟨ev, Z, A, R, h⟩ := h
    simp only [evE] at h
    refine semE_mono (sub1 R h) fun x H1 ⟨r, e1, Z1, A1, s1, R1, q1, h1⟩ => ?_
    split at h1
    · rename_i d hd
      have r1 := R1.rdv q1 hd
      cases hs : revD d with
      | none => rw [hs] at h1; exact h1.elim
      | some res =>
        rw [hs] at h1
        have g := R1.give rfl rfl h1
        cases d <;> (simp only [revD] at hs) <;> cases hs
        · obtain ⟨p, xs, rfl, g1, g2, g3⟩ := r1.list R1.sub
          exact ⟨p, xs, rfl, .inl ⟨.inl (.inl g1), fun p' hp => g.lst R1.sub (by rw [List.length_reverse]; exact g2) g3.rev hp⟩⟩
        · obtain ⟨p, xs, rfl, g1, g2, g3⟩ := r1.tuple R1.sub
          exact ⟨p, xs, rfl, .inr ⟨.inl (.inl g1), fun p' hp => g.tup R1.sub (by rw [List.length_reverse]; exact g2) g3.rev hp⟩⟩
    · exact h1.elim
  | .isi a ty, w, k, N, fb, X, py, hX, tk, hm => by
    cases py <;> first | (exfalso; revert hm; simp [mE]; done) | skip
    rename_i fn as kws pos
    cases fn <;> first | (exfalso; revert hm; simp [mE]; done) | skip
    match as, kws, hm with
    | [], _, hm => exact absurd hm (by simp [mE])
    | [_], _, hm => exact absurd hm (by simp [mE])
    | _ :: _ :: _ :: _, _, hm => exact absurd hm (by simp [mE])
    | [l, y], _ :: _, hm => exact absurd hm (by cases y <;> simp [mE])
    | [l, y], [], hm =>
      cases y <;> first | (exfalso; revert hm; simp [mE]; done) | skip
      simp only [mE, Bool.and_eq_true] at hm
      obtain ⟨⟨⟨⟨h1, h2⟩, h3⟩, h4⟩, h5⟩ := hm
      cases isN_eq h1
      cases isN_eq h3
      have hb : bootBuiltins (sN ty.nm) = some (.type ty.nm) := by cases ty <;> decide +kernel
      refine ⟨fun pins s σ H Q I h => (pe_callB call_isi (glb_gl h2) (hX.blt "isinstance" (by decide)) (by decide +kernel) (pa_cons (sndE a hX tk h5) (pa_cons (pe_bltn (v := .ty ty.nm) (glb_gl h4) (hX.blt _ (ty_mem ty)) hb rfl (by cases ty <;> decide +kernel) (by cases ty <;> decide +kernel)) pa_nil) (star_of (mE_noStar h5)))
        (by decide +kernel) (by decide +kernel) (star_of (mE_noStar h5)) rfl).run pins s σ H Q I ?_⟩
      obtain ⟨ev, Z, A, R, h⟩ := h
      simp only [evE] at h
      refine semE_mono (sub1 R h) fun x H1 ⟨r, e1, Z1, A1, s1, R1, q1, h1⟩ => ?_
      split at h1
      · rename_i d hd
        split at h1
        · rename_i b hb
          obtain ⟨t, g1, g2⟩ := isi_ok R1.sub (R1.rdv q1 hd) hb
          rw [hX.K]
          exact ⟨x, .ty ty.nm, t, .type ty.nm, b, rfl, .ty _, g1, g2, fin_v R1 h1 (.bl _)⟩
        · exact h1.elim
      · exact h1.elim
  | .mth1 m i e, w, k, N, fb, X, py, hX, tk, hm => by
    cases py <;> first | (exfalso; revert hm; simp [mE]; done) | skip
    rename_i fn as kws pos
    cases fn <;> first | (exfalso; revert hm; simp [mE]; done) | skip
    rename_i o n apos
    cases o <;> first | (exfalso; revert hm; simp [mE]; done) | skip
    match as, kws, hm with
    | [], _, hm => exact absurd hm (by simp [mE])
    | _ :: _ :: _, _, hm => exact absurd hm (by simp [mE])
    | [y], _ :: _, hm => exact absurd hm (by simp [mE])
    | [y], [], hm =>
      simp only [mE, Bool.and_eq_true] at hm
      obtain ⟨⟨⟨h1, h2⟩, h3⟩, h4⟩ := hm
      cases isN_eq h2
      obtain ⟨id, r, g1, g2, g3, g4⟩ := mth_ok (X := X) hX.K m
      have st := star_of (env := X.env) (es := []) (mE_noStar h4)
      refine ⟨fun pins s σ H Q I h => (pe_bm PySem.F.plainAttrs_list g1 g2 g3 (rd_slot hX.N h1) (pa_cons (sndE e hX tk h4) pa_nil st) rfl (by rw [st]; rfl) h3 st rfl).run pins s σ H Q I ?_⟩
      obtain ⟨ev, Z, A, R, h⟩ := h
      simp only [evE] at h
      split at h
      · rename_i xs0 h0
        obtain ⟨a, ys0, e0, _, f0, _⟩ := spot R h0
        refine ⟨.ref a, e0, .inl ⟨rfl, ys0, .inl (.inl f0)⟩, semE_mono (sub1 R h) fun y H1 ⟨r1, e1, Z1, A1, s1, R1, q1, h1⟩ => ?_⟩
        split at h1
        · rename_i d e2 hd
          obtain ⟨Z2, A2, s2, R2, rp⟩ := R1.esc q1 hd
          split at h1
          · rename_i xs hxs
            obtain ⟨a', ys, e0', e3, f1, f2, f3, f4⟩ := spot R2 hxs
            rw [e0] at e0'
            cases e0'
            split at h1
            · rename_i d' xs' hmm
              refine g4 R2.sub f1 f2 f3 rp hmm fun z ys' rz hl rs => ?_
              have R3 := f4 (upd H1 a (.lst ys')) ys' xs' (fun b hb => upd_ne hb) upd_same hl rs
              exact h1 _ Z2 A2 s2 R3 z rz
            · exact h1.elim
          · exact h1.elim
        · exact h1.elim
      · exact h.elim
  | .pop0 i, w, k, N, fb, X, py, hX, tk, hm => by
    cases py <;> first | (exfalso; revert hm; simp [mE]; done) | skip
    rename_i fn as kws pos
    cases fn <;> first | (exfalso; revert hm; simp [mE]; done) | skip
    rename_i o n apos
    cases o <;> first | (exfalso; revert hm; simp [mE]; done) | skip
    match as, kws, hm with
    | _ :: _, _, hm => exact absurd hm (by simp [mE])
    | [], _ :: _, hm => exact absurd hm (by simp [mE])
    | [], [], hm =>
      simp only [mE, Bool.and_eq_true] at hm
      obtain ⟨⟨h1, h2⟩, h3⟩ := hm
      cases isN_eq h2
      refine ⟨fun pins s σ H Q I h => (pe_bm0 PySem.F.plainAttrs_list PySem.F.slot_list_pop PySem.F.type_list_pop mt_pop (rd_slot hX.N h1) rfl h3).run pins s σ H Q I ?_⟩
      obtain ⟨ev, Z, A, R, h⟩ := h
      simp only [evE] at h
      split at h
      · rename_i xs hxs
        obtain ⟨a, ys, e0, e3, f1, f2, f3, f4⟩ := spot R hxs
        split at h
        · rename_i d hd
          rw [List.getLast?_eq_getElem?] at hd
          obtain ⟨z, hz, rz⟩ := f3.getD hd
          rw [← f3.length] at hz
          refine ⟨.ref a, e0, .inl ⟨rfl, ys, .inl (.inl f1)⟩, a, ys, z, rfl, rfl, f1, hz, ?_⟩
          have R3 := f4 (upd H a (.lst ys.dropLast)) ys.dropLast xs.dropLast (fun b hb => upd_ne hb) upd_same (by rw [List.length_dropLast]; omega) f3.dropLast
          exact h _ Z A (Same.refl _) R3 z rz
        · exact h.elim
      · exact h.elim
  | .ins i a b, w, k, N, fb, X, py, hX, tk, hm => by
    cases py <;> first | (exfalso; revert hm; simp [mE]; done) | skip
    rename_i fn as kws pos
    cases fn <;> first | (exfalso; revert hm; simp [mE]; done) | skip
    rename_i o n apos
    cases o <;> first | (exfalso; revert hm; simp [mE]; done) | skip
    match as, kws, hm with
    | [], _, hm => exact absurd hm (by simp [mE])
    | [_], _, hm => exact absurd hm (by simp [mE])
    | _ :: _ :: _ :: _, _, hm => exact absurd hm (by simp [mE])
    | [y, z], _ :: _, hm => exact absurd hm (by simp [mE])
    | [y, z], [], hm =>
      simp only [mE, Bool.and_eq_true] at hm
      obtain ⟨⟨⟨⟨h1, h2⟩, h3⟩, h4⟩, h5⟩ := hm
      cases isN_eq h2
      have st1 := star_of (env := X.env) (es := [z]) (mE_noStar h4)
      have st2 := star_of (env := X.env) (es := []) (mE_noStar h5)
      refine ⟨fun pins s σ H Q I h => (pe_bm PySem.F.plainAttrs_list PySem.F.slot_list_insert PySem.F.type_list_insert mt_insert (rd_slot hX.N h1) (pa_cons (sndE a hX tk h4) (pa_cons (sndE b hX tk h5) pa_nil st2) st1) rfl (by rw [st1, st2]; rfl) h3 st1 (by rw [st2]; rfl)).run pins s σ H Q I ?_⟩
      obtain ⟨ev, Z, A, R, h⟩ := h
      simp only [evE] at h
      split at h
      · rename_i xs0 h0
        obtain ⟨ad, ys0, e0, _, f0, _⟩ := spot R h0
        refine ⟨.ref ad, e0, .inl ⟨rfl, ys0, .inl (.inl f0)⟩, semE_mono (sub1 R h) fun v H1 ⟨q, e1, Z1, A1, s1, R1, q1, h1⟩ => semE_mono (sub1 R1 h1) fun u H2 ⟨r, e2, Z2, A2, s2, R2, q2, h2⟩ => ?_⟩
        split at h2
        · rename_i j hj
          rw [rd_stl] at hj
          cases (R2.rdv (q1.later s2) hj).int
          split at h2
          · rename_i d e3 hd
            obtain ⟨Z3, A3, s3, R3, rp⟩ := R2.esc q2 hd
            split at h2
            · rename_i xs hxs
              obtain ⟨a', ys, e0', e3, f1, f2, f3, f4⟩ := spot R3 hxs
              rw [e0] at e0'
              cases e0'
              split at h2
              · rename_i hc
                obtain ⟨c1, c2, c3⟩ := hc
                have hyl := f3.length
                have hle : xs.length < 16777216 := c3
                refine ⟨ad, ys, j, u, rfl, rfl, f1, by rw [sizeLine_eq]; omega, c1, by omega, ?_⟩
                have R4 := f4 (upd H2 ad (.lst (ys.take j.toNat ++ [u] ++ ys.drop j.toNat))) _ _ (fun b hb => upd_ne hb) upd_same (by rw [sizeLine_eq]; simp; omega) (((f3.take j.toNat).append (.cons rp .nil)).append (f3.drop j.toNat))
                exact h2 _ Z3 A3 s3 R4 .non .non
              · exact h2.elim
            · exact h2.elim
          · exact h2.elim
        · exact h2.elim
      · exact h.elim
  | .ixof a b, w, k, N, fb, X, py, hX, tk, hm => by
    cases py <;> first | (exfalso; revert hm; simp [mE]; done) | skip
    rename_i fn as kws pos
    cases fn <;> first | (exfalso; revert hm; simp [mE]; done) | skip
    rename_i o n apos
    match as, kws, hm with
    | [], _, hm => exact absurd hm (by simp [mE])
    | _ :: _ :: _, _, hm => exact absurd hm (by simp [mE])
    | [y], _ :: _, hm => exact absurd hm (by simp [mE])
    | [y], [], hm =>
      simp only [mE, Bool.and_eq_true] at hm
      obtain ⟨⟨⟨⟨h1, h2⟩, h3⟩, h4⟩, h5⟩ := hm
      cases isN_eq h1
      have st := star_of (env := X.env) (es := []) (mE_noStar h5)
      refine ⟨fun pins s σ H Q I h => (pe_bm PySem.F.plainAttrs_list PySem.F.slot_list_index PySem.F.type_list_index (mt_indexD hX.units) (sndE a hX tk h4) (pa_cons (sndE b hX tk h5) pa_nil st) (nsup_base h3) (by rw [st]; rfl) h2 st rfl).run pins s σ H Q I ?_⟩
      obtain ⟨ev, Z, A, R, h⟩ := h
      simp only [evE] at h
      refine semE_mono (sub1 R h) fun x H1 ⟨r, e1, Z1, A1, s1, R1, q1, h1⟩ => ?_
      split at h1
      · rename_i ds0 hd0
        obtain ⟨a0, xs0, rfl, g0, _⟩ := (R1.rdv (r := r) (by cases r <;> exact q1) hd0).list R1.sub
        refine ⟨.inl ⟨rfl, xs0, .inl (.inl g0)⟩, semE_mono (sub1 R1 h1) fun y H2 ⟨q, e2, Z2, A2, s2, R2, q2, h2⟩ => ?_⟩
        split at h2
        · rename_i ds d hd hy
          rw [rd_stl] at hd
          have r1 := R2.rdv (q1.later s2) hd
          have r2 := R2.rdv q2 hy
          split at h2
          · rename_i j hj
            obtain ⟨a1, xs1, e1', g1, g2, g3⟩ := r1.list R2.sub
            cases e1'
            obtain ⟨z, w1, w2, w3, w4, w5⟩ := ixD_ok hj
            have dp1 : Dp w.K H2 (.ref a0) (.list ds) := .lst (.inl (.inl g1)) (g3.dp R2.sub (SeqAt.canLay_of_shaped w1))
            obtain ⟨yv, hyv⟩ : ∃ y', Dp w.K H2 y' d := ⟨_, rdv_dp R2.sub r2 (SeqAt.canLay_of_shaped w2)⟩
            rw [hX.K]
            exact ⟨a0, y, d, ds, j, z, rfl, rfl, dp1, rdv_dp R2.sub r2 (SeqAt.canLay_of_shaped w2), w1, w2, w3, w4, w5, fin_v R2 h2 (.int _)⟩
          · exact h2.elim
        · exact h2.elim
      · exact h1.elim
  | .dlit a b, w, k, N, fb, X, py, hX, tk, hm => by
    cases py <;> first | (exfalso; revert hm; simp [mE]; done) | skip
    simp only [mE] at hm
    split at hm
    · rename_i i y x z h1 h2
      simp only [Bool.and_eq_true, decide_eq_true_eq] at hm
      obtain ⟨h3, rfl⟩ := hm
      obtain ⟨rfl, rfl⟩ := dlC_eq h1
      obtain ⟨_, _, _, _, _, _, _, rfl, rfl⟩ := dlP_eq h2
      exact dlit_ok hX h3
    · cases hm
  | .dg1 a b, w, k, N, fb, X, py, hX, tk, hm => by
    cases py <;> first | (exfalso; revert hm; simp [mE]; done) | skip
    rename_i fn as kws pos
    cases fn <;> first | (exfalso; revert hm; simp [mE]; done) | skip
    rename_i o n apos
    match as, kws, hm with
    | [], _, hm => exact absurd hm (by simp [mE])
    | _ :: _ :: _, _, hm => exact absurd hm (by simp [mE])
    | [y], _ :: _, hm => exact absurd hm (by simp [mE])
    | [y], [], hm =>
      simp only [mE, Bool.and_eq_true] at hm
      obtain ⟨⟨⟨⟨h1, h2⟩, h3⟩, h4⟩, h5⟩ := hm
      cases isN_eq h1
      have st := star_of (env := X.env) (es := []) (mE_noStar h5)
      refine ⟨fun pins s σ H Q I h => (pe_dget1 (by have := hX.units; omega) (sndE a hX tk h4) (sndE b hX tk h5) ⟨nsup_base h3, by rw [st]; rfl, h2, by rw [st]; rfl⟩).run pins s σ H Q I ?_⟩
      obtain ⟨ev, Z, A, R, h⟩ := h
      simp only [evE] at h
      refine semE_mono (sub1 R h) fun x H1 ⟨r, e1, Z1, A1, s1, R1, q1, h1⟩ => ?_
      split at h1
      · rename_i t0 kvs0 hd0
        obtain ⟨a0, rfl, g0⟩ := rdv_isD R1.sub (R1.rdv (r := r) (by cases r <;> exact q1) hd0)
        refine ⟨a0, rfl, g0, semE_mono (sub1 R1 h1) fun y H2 ⟨q, e2, Z2, A2, s2, R2, q2, h2⟩ => ?_⟩
        split at h2
        · rename_i tt kvs kk hd1 hd2
          rw [rd_stl] at hd1
          have r1 := R2.rdv (q1.later s2) hd1
          have r2 := R2.rdv q2 hd2
          split at h2
          · rename_i hok
            obtain ⟨p, o', ep, dg, ho⟩ := dget_of R2.sub r1 r2 hok
            cases ep
            rcases ho with ⟨e, e'⟩ | ⟨v, d', e, e', rp⟩
            · rw [e'] at h2
              exact ⟨o', dg, by rw [e]; exact fin_v R2 h2 .non⟩
            · rw [e'] at h2
              exact ⟨o', dg, by rw [e]; exact fin_v R2 h2 rp⟩
          · exact h2.elim
        · exact h2.elim
      · exact h1.elim
  | .dg2 a b d, w, k, N, fb, X, py, hX, tk, hm => by
    cases py <;> first | (exfalso; revert hm; simp [mE]; done) | skip
    rename_i fn as kws pos
    cases fn <;> first | (exfalso; revert hm; simp [mE]; done) | skip
    rename_i o n apos
    match as, kws, hm with
    | [], _, hm => exact absurd hm (by simp [mE])
    | [_], _, hm => exact absurd hm (by simp [mE])
    | _ :: _ :: _ :: _, _, hm => exact absurd hm (by simp [mE])
    | [y, z], _ :: _, hm => exact absurd hm (by simp [mE])
    | [y, z], [], hm =>
      simp only [mE, Bool.and_eq_true] at hm
      obtain ⟨⟨⟨⟨⟨h1, h2⟩, h3⟩, h4⟩, h5⟩, h6⟩ := hm
      cases isN_eq h1
      have st1 := star_of (env := X.env) (es := [z]) (mE_noStar h5)
      have st2 := star_of (env := X.env) (es := []) (mE_noStar h6)
      refine ⟨fun pins s σ H Q I h => (pe_dget2 (by have := hX.units; omega) (sndE a hX tk h4) (sndE b hX tk h5) (sndE d hX tk h6) ⟨nsup_base h3, by rw [st1, st2]; rfl, h2, by rw [st1, st2]; rfl⟩).run pins s σ H Q I ?_⟩
      obtain ⟨ev, Z, A, R, h⟩ := h
      simp only [evE] at h
      refine semE_mono (sub1 R h) fun x H1 ⟨r, e1, Z1, A1, s1, R1, q1, h1⟩ => ?_
      split at h1
      · rename_i t0 kvs0 hd0
        obtain ⟨a0, rfl, g0⟩ := rdv_isD R1.sub (R1.rdv (r := r) (by cases r <;> exact q1) hd0)
        refine ⟨a0, rfl, g0, semE_mono (sub1 R1 h1) fun y H2 ⟨q, e2, Z2, A2, s2, R2, q2, h2⟩ => semE_mono (sub1 R2 h2) fun z H3 ⟨u, e3, Z3, A3, s3, R3, q3, h3⟩ => ?_⟩
        split at h3
        · rename_i tt kvs kk dx hd1 hd2
          rw [rd_stl] at hd1 hd2
          have r1 := R3.rdv (q1.later (s2.trans s3)) hd1
          have r2 := R3.rdv (q2.later s3) hd2
          split at h3
          · rename_i hok
            obtain ⟨p, o', ep, dg, ho⟩ := dget_of R3.sub r1 r2 hok
            cases ep
            rcases ho with ⟨e, e'⟩ | ⟨v, d', e, e', rp⟩
            · rw [e'] at h3
              exact ⟨o', dg, by rw [e]; exact fin_v R3 h3 q3⟩
            · rw [e'] at h3
              exact ⟨o', dg, by rw [e]; exact fin_v R3 h3 rp⟩
          · exact h3.elim
        · exact h3.elim
      · exact h1.elim
  | .items i, w, k, N, fb, X, py, hX, tk, hm => by
    cases py <;> first | (exfalso; revert hm; simp [mE]; done) | skip
    rename_i fn as kws pos
    cases fn <;> first | (exfalso; revert hm; simp [mE]; done) | skip
    match as, kws, hm with
    | [], _, hm => exact absurd hm (by simp [mE])
    | _ :: _ :: _, _, hm => exact absurd hm (by simp [mE])
    | [y], _ :: _, hm => exact absurd hm (by simp [mE])
    | [y], [], hm =>
      cases y <;> first | (exfalso; revert hm; simp [mE]; done) | skip
      rename_i fn2 as2 kws2 pos2
      cases fn2 <;> first | (exfalso; revert hm; simp [mE]; done) | skip
      rename_i o n apos
      cases o <;> first | (exfalso; revert hm; simp [mE]; done) | skip
      match as2, kws2, hm with
      | _ :: _, _, hm => exact absurd hm (by simp [mE])
      | [], _ :: _, hm => exact absurd hm (by simp [mE])
      | [], [], hm =>
        simp only [mE, Bool.and_eq_true] at hm
        obtain ⟨⟨⟨⟨h1, h2⟩, h3⟩, h4⟩, h5⟩ := hm
        cases isN_eq h1
        cases isN_eq h4
        refine ⟨fun pins s σ H Q I h => (LiI.pe_listItems hX.calm (rd_slot hX.N h3) (glb_gl h2) (hX.blt "list" (by decide)) (by decide +kernel) rfl h5 rfl).run pins s σ H Q I ?_⟩
        obtain ⟨ev, Z, A, R, h⟩ := h
        simp only [evE] at h
        split at h
        · rename_i kvs hs
          obtain ⟨a0, ea, oc⟩ := R.sl i _ hs
          obtain ⟨_, ks, g1, g2, g3⟩ := oc
          refine ⟨.ref a0, ea, a0, ks, rfl, g1, fun H' p ts k1 hp ht hpt hl hts => ?_⟩
          exact items_give R rfl rfl h g2 g3 k1 hp ht hpt hl hts
        · exact h.elim
  | .strI a, w, k, N, fb, X, py, hX, tk, hm => by
    cases py <;> first | (exfalso; revert hm; simp [mE]; done) | skip
    rename_i fn as kws pos
    cases fn <;> first | (exfalso; revert hm; simp [mE]; done) | skip
    match as, kws, hm with
    | [], _, hm => exact absurd hm (by simp [mE])
    | _ :: _ :: _, _, hm => exact absurd hm (by simp [mE])
    | [y], _ :: _, hm => exact absurd hm (by simp [mE])
    | [y], [], hm =>
      simp only [mE, Bool.and_eq_true] at hm
      obtain ⟨⟨h1, h2⟩, h3⟩ := hm
      cases isN_eq h1
      refine ⟨fun pins s σ H Q I h => (pe_callTy call_str_int (glb_gl h2) (hX.blt "str" (by decide)) (by decide +kernel) (pa_cons (sndE a hX tk h3) pa_nil (star_of (mE_noStar h3))) (by decide +kernel) (by decide +kernel) (star_of (mE_noStar h3)) rfl).run pins s σ H Q I ?_⟩
      obtain ⟨ev, Z, A, R, h⟩ := h
      simp only [evE] at h
      refine semE_mono (sub1 R h) fun x H1 ⟨r, e1, Z1, A1, s1, R1, q1, h1⟩ => ?_
      split at h1
      · rename_i j hd
        cases (R1.rdv q1 hd).int
        split at h1
        · rename_i hl
          exact ⟨j, rfl, hl, fin_v R1 h1 (.str _)⟩
        · exact h1.elim
      · exact h1.elim
  | .srtk a b, w, k, N, fb, X, py, hX, tk, hm => by exfalso; revert hm; simp [mE]
  | .lc own tg tup it cd e, w, k, N, fb, X, py, hX, tk, hm => by
    cases py <;> first | (exfalso; revert hm; simp [mE]; done) | skip
    rename_i elt gens scope pos
    match gens, hm with
    | [], hm => exact absurd hm (by simp [mE])
    | _ :: _ :: _, hm => exact absurd hm (by simp [mE])
    | [⟨t, iter, ifs, z⟩], hm =>
      simp only [mE, Bool.and_eq_true, decide_eq_true_eq] at hm
      obtain ⟨⟨⟨⟨⟨⟨rfl, h1⟩, h2⟩, h3⟩, h4⟩, h5⟩, h6⟩ := hm
      have ho : ∀ i ∈ tg, i ∈ own := by simpa using h6
      refine ⟨fun pins s σ H Q I h => (pe_lc (own := ownP N own) (g := gTg w.K tup tg) (tt := anyC w cd) (te := anyE w e) hX.calm hX.nd (sndIt it hX tk h3) (blkOk_by (by rw [hX.N]; exact h1)) (fun s' H' C cl fp => ?_) (fun s' H' C cl fp => ?_) (fun s' H' C cl fp => ?_) (fold_of (mIt_noStar h3))).run pins s σ H Q I ?_⟩
      · rw [← hX.K]
        exact sndTg (X := X.blk s' H' scope (compEnvC scope cl C X.env) fp) (fb := blkFb scope) hX.N hX.nd hX.calm (fun _ z => z) h2
      · exact ⟨fun pins s σ H Q I q => let ⟨c', q⟩ := q; (sndC cd (X := X.blk s' H' scope (compEnvC scope cl C X.env) fp) (hX.blk c') takesF h4).run pins s σ H Q I q⟩
      · exact ⟨fun pins s σ H Q I q => let ⟨c', q⟩ := q; (sndE e (X := X.blk s' H' scope (compEnvC scope cl C X.env) fp) (hX.blk c') takesF h5).run pins s σ H Q I q⟩
      · obtain ⟨ev, Z, A, R, h⟩ := h
        simp only [evE] at h
        rw [ownP_snd]
        refine ⟨ev, Z, A, R, h.bnd.imp fun ds e1 H1 Z1 A1 s1 R1 q J wk => ?_⟩
        split at q
        · rename_i evs hw
          split at q
          · rename_i xs e2 hl
            exact lc_turns ho (wk.f _) R1 hw hl q
          · exact q.elim
        · exact q.elim
  | .dc kt own tg tup it cd kk vv, w, k, N, fb, X, py, hX, tk, hm => by
    cases py <;> first | (exfalso; revert hm; simp [mE]; done) | skip
    rename_i kx vx gens scope pos
    match gens, hm with
    | [], hm => exact absurd hm (by simp [mE])
    | _ :: _ :: _, hm => exact absurd hm (by simp [mE])
    | [⟨t, iter, ifs, z⟩], hm =>
      simp only [mE, Bool.and_eq_true, decide_eq_true_eq] at hm
      obtain ⟨⟨⟨⟨⟨⟨rfl, h1⟩, h2⟩, h3⟩, h4⟩, h5, h5'⟩, h6⟩ := hm
      have ho : ∀ i ∈ tg, i ∈ own := by simpa using h6
      refine ⟨fun pins s σ H Q I h => (pe_dcc (t := kt) (own := ownP N own) (g := gTg w.K tup tg) (tt := anyC w cd) (tk := anyE w kk) (tv := anyE w vv) (by have := hX.units; omega) hX.calm hX.nd (sndIt it hX tk h3) (blkOk_by (by rw [hX.N]; exact h1)) (fun s' H' C cl fp => ?_) (fun s' H' C cl fp => ?_) (fun s' H' C cl fp => ?_) (fun s' H' C cl fp => ?_) (fold_of (mIt_noStar h3))).run pins s σ H Q I ?_⟩
      · rw [← hX.K]
        exact sndTg (X := X.blk s' H' scope (compEnvC scope cl C X.env) fp) (fb := blkFb scope) hX.N hX.nd hX.calm (fun _ z => z) h2
      · exact ⟨fun pins s σ H Q I q => let ⟨c', q⟩ := q; (sndC cd (X := X.blk s' H' scope (compEnvC scope cl C X.env) fp) (hX.blk c') takesF h4).run pins s σ H Q I q⟩
      · exact ⟨fun pins s σ H Q I q => let ⟨c', q⟩ := q; (sndE kk (X := X.blk s' H' scope (compEnvC scope cl C X.env) fp) (hX.blk c') takesF h5).run pins s σ H Q I q⟩
      · exact ⟨fun pins s σ H Q I q => let ⟨c', q⟩ := q; (sndE vv (X := X.blk s' H' scope (compEnvC scope cl C X.env) fp) (hX.blk c') takesF h5').run pins s σ H Q I q⟩
      · obtain ⟨ev, Z, A, R, h⟩ := h
        simp only [evE] at h
        rw [ownP_snd]
        refine ⟨ev, Z, A, R, h.bnd.imp fun ds e1 H1 Z1 A1 s1 R1 q J wk => ?_⟩
        split at q
        · rename_i evs hw
          split at q
          · rename_i xs e2 hl
            exact dc_turns ho wk R1 hw hl q
          · exact q.elim
        · exact q.elim
  | .dck kt own tg tup i cd kk vv, w, k, N, fb, X, py, hX, tk, hm => by
    cases py <;> first | (exfalso; revert hm; simp [mE]; done) | skip
    rename_i kx vx gens scope pos
    match gens, hm with
    | [], hm => exact absurd hm (by simp [mE])
    | _ :: _ :: _, hm => exact absurd hm (by simp [mE])
    | [⟨t, iter, ifs, z⟩], hm =>
      cases iter <;> first | (exfalso; revert hm; simp [mE]; done) | skip
      rename_i x xp
      simp only [mE, Bool.and_eq_true, decide_eq_true_eq] at hm
      obtain ⟨⟨⟨⟨⟨⟨rfl, h1⟩, h2⟩, h3⟩, h4⟩, h5, h5'⟩, h6⟩ := hm
      have ho : ∀ i ∈ tg, i ∈ own := by simpa using h6
      have body : PE X (.DictComp kx vx [⟨t, .Name x xp, ifs, 0⟩] scope pos) (tDcc kt (iKeys (tVar i)) (gTg w.K tup tg) (anyC w cd) (anyE w kk) (anyE w vv) ((ownP N own).map (·.2))) := by
        refine pe_dcc (by have := hX.units; omega) hX.calm hX.nd (pi_keys (rd_slot hX.N h3)) (blkOk_by (by rw [hX.N]; exact h1)) (fun s' H' C cl fp => ?_) (fun s' H' C cl fp => ?_) (fun s' H' C cl fp => ?_) (fun s' H' C cl fp => ?_) (fold_of rfl)
        · rw [← hX.K]
          exact sndTg (X := X.blk s' H' scope (compEnvC scope cl C X.env) fp) (fb := blkFb scope) hX.N hX.nd hX.calm (fun _ z => z) h2
        · exact ⟨fun pins s σ H Q I q => let ⟨c', q⟩ := q; (sndC cd (X := X.blk s' H' scope (compEnvC scope cl C X.env) fp) (hX.blk c') takesF h4).run pins s σ H Q I q⟩
        · exact ⟨fun pins s σ H Q I q => let ⟨c', q⟩ := q; (sndE kk (X := X.blk s' H' scope (compEnvC scope cl C X.env) fp) (hX.blk c') takesF h5).run pins s σ H Q I q⟩
        · exact ⟨fun pins s σ H Q I q => let ⟨c', q⟩ := q; (sndE vv (X := X.blk s' H' scope (compEnvC scope cl C X.env) fp) (hX.blk c') takesF h5').run pins s σ H Q I q⟩
      rw [ownP_snd] at body
      refine ⟨fun pins s σ H Q I h => ?_⟩
      obtain ⟨ev, Z, A, R, h⟩ := h
      rcases dck_turns ho R h with q | q
      · exact body.run pins s σ H Q I q
      · exact (pe_lock body).run pins s σ H Q I q
  | .lco own tg tup i cd e, w, k, N, fb, X, py, hX, tk, hm => by
    cases py <;> first | (exfalso; revert hm; simp [mE]; done) | skip
    rename_i elt gens scope pos
    match gens, hm with
    | [], hm => exact absurd hm (by simp [mE])
    | _ :: _ :: _, hm => exact absurd hm (by simp [mE])
    | [⟨t, iter, ifs, z⟩], hm =>
      cases iter <;> first | (exfalso; revert hm; simp [mE]; done) | skip
      rename_i x xp
      simp only [mE, Bool.and_eq_true, decide_eq_true_eq] at hm
      obtain ⟨⟨⟨⟨⟨⟨rfl, h1⟩, h2⟩, h3⟩, h4⟩, h5⟩, h6⟩ := hm
      have ho : ∀ i ∈ tg, i ∈ own := by simpa using h6
      refine ⟨fun pins s σ H Q I h => (pe_lc (own := ownP N own) (g := gTg w.K tup tg) (tt := anyC w cd) (te := anyE w e) hX.calm hX.nd (pi_seq (rd_slot hX.N h3)) (blkOk_by (by rw [hX.N]; exact h1)) (fun s' H' C cl fp => ?_) (fun s' H' C cl fp => ?_) (fun s' H' C cl fp => ?_) (fold_of rfl)).run pins s σ H Q I ?_⟩
      · rw [← hX.K]
        exact sndTg (X := X.blk s' H' scope (compEnvC scope cl C X.env) fp) (fb := blkFb scope) hX.N hX.nd hX.calm (fun _ z => z) h2
      · exact ⟨fun pins s σ H Q I q => let ⟨c', q⟩ := q; (sndC cd (X := X.blk s' H' scope (compEnvC scope cl C X.env) fp) (hX.blk c') takesF h4).run pins s σ H Q I q⟩
      · exact ⟨fun pins s σ H Q I q => let ⟨c', q⟩ := q; (sndE e (X := X.blk s' H' scope (compEnvC scope cl C X.env) fp) (hX.blk c') takesF h5).run pins s σ H Q I q⟩
      · obtain ⟨ev, Z, A, R, h⟩ := h
        simp only [evE] at h
        rw [ownP_snd]
        split at h
        · rename_i ds hs
          split at h
          · rename_i evs hw
            split at h
            · rename_i xs e2 hl
              split at h
              · rename_i he
                rw [hX.K]
                exact lco_turns ho R hs hw hl he h
              · exact h.elim
            · exact h.elim
          · exact h.elim
        · exact h.elim
  | .lc2 own tg tup it cd e, w, k, N, fb, X, py, hX, tk, hm => by
    cases py <;> first | (exfalso; revert hm; simp [mE]; done) | skip
    rename_i elt gens scope pos
    match gens, hm with
    | [], hm => exact absurd hm (by simp [mE])
    | _ :: _ :: _, hm => exact absurd hm (by simp [mE])
    | [⟨t, iter, ifs, z⟩], hm =>
      simp only [mE, Bool.and_eq_true, decide_eq_true_eq] at hm
      obtain ⟨⟨⟨⟨⟨⟨rfl, h1⟩, h2⟩, h3⟩, h4⟩, h5⟩, h6⟩ := hm
      have ho : ∀ i ∈ tg, i ∈ own := by simpa using h6
      have hi : ifs = [] := by
        cases cd <;> cases ifs <;> first | rfl | (simp at h4)
      subst hi
      refine ⟨fun pins s σ H Q I h => (pe_lc (own := ownP N own) (g := gTg w.K tup tg) (tt := anyC w .no) (te := anyE w e) hX.calm hX.nd (sndIt it hX tk h3) (blkOk_by (by rw [hX.N]; exact h1)) (fun s' H' C cl fp => ?_) (fun s' H' C cl fp => ?_) (fun s' H' C cl fp => ?_) (fold_of (mIt_noStar h3))).run pins s σ H Q I ?_⟩
      · rw [← hX.K]
        exact sndTg (X := X.blk s' H' scope (compEnvC scope cl C X.env) fp) (fb := blkFb scope) hX.N hX.nd hX.calm (fun _ z => z) h2
      · refine ⟨fun pins s σ H Q I q => pts_nil.run pins s σ H Q I ?_⟩
        obtain ⟨c', ev', Z', A', R', q⟩ := q
        exact q H Z' A' (Same.refl _) R'
      · exact ⟨fun pins s σ H Q I q => let ⟨c', q⟩ := q; (sndE e (X := X.blk s' H' scope (compEnvC scope cl C X.env) fp) (hX.blk c') takesF h5).run pins s σ H Q I q⟩
      · obtain ⟨ev, Z, A, R, h⟩ := h
        simp only [evE] at h
        rw [ownP_snd]
        refine ⟨ev, Z, A, R, h.bnd.imp fun ds e1 H1 Z1 A1 s1 R1 q J wk => ?_⟩
        split at q
        · rename_i evs hw
          split at q
          · rename_i xs e2 hl
            exact lc2_turns ho wk R1 hw hl q
          · exact q.elim
        · exact q.elim
termination_by e => sizeOf e
decreasing_by all_goals (simp_wf; try omega)
theorem sndT : ∀ (e : T) {w : Wd} {k : Nat} {N : List Str} {fb : Str → Bool} {X : Cx} {py : Expr}, XOk w k N fb X → Takes X w.W → mT N w.ren e X.env.scope py = true → PT X py (semT w e)
  | .val (.cmp o a b), w, k, N, fb, X, py, hX, tk, hm => by
    cases py <;> first | (exfalso; revert hm; simp [mT,mE]; done) | skip
    rename_i l ops rs pos
    match ops, rs, hm with
    | [p], [r], hm =>
      simp only [mT, mE, Bool.and_eq_true, decide_eq_true_eq] at hm
      obtain ⟨_, ⟨rfl, ha⟩, hb⟩ := hm
      refine ⟨fun pins s σ H Q I h => (pt_cmpR (cop_ok hX.units o) (sndE a hX tk ha) (sndE b hX tk hb) (mark_of (mE_noStar hb))).run pins s σ H Q I ?_⟩
      obtain ⟨ev, Z, A, R, h⟩ := h
      simp only [evT] at h
      have h' := h.bnd
      clear h
      simp only [evE] at h'
      refine semE_mono (sub1 R h') fun x H1 ⟨r, e1, Z1, A1, s1, R1, q1, h1⟩ => semE_mono (sub1 R1 h1) fun y H2 ⟨q, e2, Z2, A2, s2, R2, q2, h2⟩ => ?_
      split at h2
      · rename_i d1 d2 hd1 hd2
        rw [rd_stl] at hd1
        rw [hX.K]
        split at h2
        · rename_i res hb
          refine ⟨Z2, d1, d2, res, R2.sub, R2.rdv (q1.later s2) hd1, R2.rdv q2 hd2, hb, res, rfl, ?_⟩
          exact h2 H2 Z2 A2 (Same.refl _) R2 H2 Z2 A2 (Same.refl _) R2
        · exact h2.elim
      · exact h2.elim
    | [], _, hm => exact absurd hm (by simp [mT,mE])
    | _ :: _ :: _, _, hm => exact absurd hm (by simp [mT,mE])
    | [_], [], hm => exact absurd hm (by simp [mT,mE])
    | [_], _ :: _ :: _, hm => exact absurd hm (by simp [mT,mE])
  | .val (.chn o p a b d), w, k, N, fb, X, py, hX, tk, hm => by
    cases py <;> first | (exfalso; revert hm; simp [mT,mE]; done) | skip
    rename_i l ops rs pos
    match ops, rs, hm with
    | [o', p'], [m, r], hm =>
      simp only [mT, mE, Bool.and_eq_true, decide_eq_true_eq] at hm
      obtain ⟨_, ⟨⟨⟨rfl, rfl⟩, ha⟩, hb⟩, hd⟩ := hm
      refine ⟨fun pins s σ H Q I h => (pt_chain (cop_ok hX.units o) (cop_ok hX.units p) (sndE a hX tk ha) (sndE b hX tk hb) (sndE d hX tk hd) (mark_of (mE_noStar hd))).run pins s σ H Q I ?_⟩
      obtain ⟨ev, Z, A, R, h⟩ := h
      simp only [evT] at h
      have h' := h.bnd
      clear h
      simp only [evE] at h'
      refine semE_mono (sub1 R h') fun x H1 ⟨r, e1, Z1, A1, s1, R1, q1, h1⟩ => semE_mono (sub1 R1 h1) fun y H2 ⟨q, e2, Z2, A2, s2, R2, q2, h2⟩ => ?_
      split at h2
      · rename_i d1 d2 hd1 hd2
        rw [rd_stl] at hd1 hd2
        rw [hX.K]
        split at h2
        · rename_i hb
          refine ⟨Z2, d1, d2, true, R2.sub, R2.rdv (q1.later s2) hd1, R2.rdv q2 hd2, hb, true, rfl, ?_⟩
          rw [if_pos rfl]
          refine semE_mono (sub1 R2 h2) fun z H3 ⟨u, e3, Z3, A3, s3, R3, q3, h3⟩ => ?_
          split at h3
          · rename_i d3 d4 hd3 hd4
            rw [rd_stl] at hd3
            split at h3
            · rename_i res hb
              refine ⟨Z3, d3, d4, res, R3.sub, R3.rdv (q2.later s3) hd3, R3.rdv q3 hd4, hb, res, rfl, ?_⟩
              exact h3 H3 Z3 A3 (Same.refl _) R3 H3 Z3 A3 (Same.refl _) R3
            · exact h3.elim
          · exact h3.elim
        · rename_i hb
          refine ⟨Z2, d1, d2, false, R2.sub, R2.rdv (q1.later s2) hd1, R2.rdv q2 hd2, hb, false, rfl, ?_⟩
          rw [if_neg (by simp)]
          exact ⟨false, rfl, h2 H2 Z2 A2 (Same.refl _) R2 H2 Z2 A2 (Same.refl _) R2⟩
        · exact h2.elim
      · exact h2.elim
    | [], _, hm => exact absurd hm (by simp [mT,mE])
    | [_], _, hm => exact absurd hm (by simp [mT,mE])
    | _ :: _ :: _ :: _, _, hm => exact absurd hm (by simp [mT,mE])
    | [_, _], [], hm => exact absurd hm (by simp [mT,mE])
    | [_, _], [_], hm => exact absurd hm (by simp [mT,mE])
    | [_, _], _ :: _ :: _ :: _, hm => exact absurd hm (by simp [mT,mE])
  | .val (.var i), w, k, N, fb, X, py, hX, tk, hm => val_plain hX (sndE (.var i) hX tk (by simp only [mT, Bool.and_eq_true] at hm; exact hm.2)) (by simp only [mT, Bool.and_eq_true] at hm; exact hm.1)
  | .val (.non), w, k, N, fb, X, py, hX, tk, hm => val_plain hX (sndE (.non) hX tk (by simp only [mT, Bool.and_eq_true] at hm; exact hm.2)) (by simp only [mT, Bool.and_eq_true] at hm; exact hm.1)
  | .val (.bl b), w, k, N, fb, X, py, hX, tk, hm => val_plain hX (sndE (.bl b) hX tk (by simp only [mT, Bool.and_eq_true] at hm; exact hm.2)) (by simp only [mT, Bool.and_eq_true] at hm; exact hm.1)
  | .val (.int i), w, k, N, fb, X, py, hX, tk, hm => val_plain hX (sndE (.int i) hX tk (by simp only [mT, Bool.and_eq_true] at hm; exact hm.2)) (by simp only [mT, Bool.and_eq_true] at hm; exact hm.1)
  | .val (.str s), w, k, N, fb, X, py, hX, tk, hm => val_plain hX (sndE (.str s) hX tk (by simp only [mT, Bool.and_eq_true] at hm; exact hm.2)) (by simp only [mT, Bool.and_eq_true] at hm; exact hm.1)
  | .val (.glo x), w, k, N, fb, X, py, hX, tk, hm => val_plain hX (sndE (.glo x) hX tk (by simp only [mT, Bool.and_eq_true] at hm; exact hm.2)) (by simp only [mT, Bool.and_eq_true] at hm; exact hm.1)
  | .val (.bin o a b), w, k, N, fb, X, py, hX, tk, hm => val_plain hX (sndE (.bin o a b) hX tk (by simp only [mT, Bool.and_eq_true] at hm; exact hm.2)) (by simp only [mT, Bool.and_eq_true] at hm; exact hm.1)
  | .val (.neg a), w, k, N, fb, X, py, hX, tk, hm => val_plain hX (sndE (.neg a) hX tk (by simp only [mT, Bool.and_eq_true] at hm; exact hm.2)) (by simp only [mT, Bool.and_eq_true] at hm; exact hm.1)
  | .val (.and a b), w, k, N, fb, X, py, hX, tk, hm => val_plain hX (sndE (.and a b) hX tk (by simp only [mT, Bool.and_eq_true] at hm; exact hm.2)) (by simp only [mT, Bool.and_eq_true] at hm; exact hm.1)
  | .val (.or a b), w, k, N, fb, X, py, hX, tk, hm => val_plain hX (sndE (.or a b) hX tk (by simp only [mT, Bool.and_eq_true] at hm; exact hm.2)) (by simp only [mT, Bool.and_eq_true] at hm; exact hm.1)
  | .val (.not a), w, k, N, fb, X, py, hX, tk, hm => val_plain hX (sndE (.not a) hX tk (by simp only [mT, Bool.and_eq_true] at hm; exact hm.2)) (by simp only [mT, Bool.and_eq_true] at hm; exact hm.1)
  | .val (.ife t a b), w, k, N, fb, X, py, hX, tk, hm => val_plain hX (sndE (.ife t a b) hX tk (by simp only [mT, Bool.and_eq_true] at hm; exact hm.2)) (by simp only [mT, Bool.and_eq_true] at hm; exact hm.1)
  | .val (.tup es), w, k, N, fb, X, py, hX, tk, hm => val_plain hX (sndE (.tup es) hX tk (by simp only [mT, Bool.and_eq_true] at hm; exact hm.2)) (by simp only [mT, Bool.and_eq_true] at hm; exact hm.1)
  | .val (.lst es), w, k, N, fb, X, py, hX, tk, hm => val_plain hX (sndE (.lst es) hX tk (by simp only [mT, Bool.and_eq_true] at hm; exact hm.2)) (by simp only [mT, Bool.and_eq_true] at hm; exact hm.1)
  | .val (.dnew t), w, k, N, fb, X, py, hX, tk, hm => val_plain hX (sndE (.dnew t) hX tk (by simp only [mT, Bool.and_eq_true] at hm; exact hm.2)) (by simp only [mT, Bool.and_eq_true] at hm; exact hm.1)
  | .val (.idx a b), w, k, N, fb, X, py, hX, tk, hm => val_plain hX (sndE (.idx a b) hX tk (by simp only [mT, Bool.and_eq_true] at hm; exact hm.2)) (by simp only [mT, Bool.and_eq_true] at hm; exact hm.1)
  | .val (.idx2 i a j), w, k, N, fb, X, py, hX, tk, hm => val_plain hX (sndE (.idx2 i a j) hX tk (by simp only [mT, Bool.and_eq_true] at hm; exact hm.2)) (by simp only [mT, Bool.and_eq_true] at hm; exact hm.1)
  | .val (.slc a lo hi), w, k, N, fb, X, py, hX, tk, hm => val_plain hX (sndE (.slc a lo hi) hX tk (by simp only [mT, Bool.and_eq_true] at hm; exact hm.2)) (by simp only [mT, Bool.and_eq_true] at hm; exact hm.1)
  | .val (.dget a b), w, k, N, fb, X, py, hX, tk, hm => val_plain hX (sndE (.dget a b) hX tk (by simp only [mT, Bool.and_eq_true] at hm; exact hm.2)) (by simp only [mT, Bool.and_eq_true] at hm; exact hm.1)
  | .val (.call f es), w, k, N, fb, X, py, hX, tk, hm => val_plain hX (sndE (.call f es) hX tk (by simp only [mT, Bool.and_eq_true] at hm; exact hm.2)) (by simp only [mT, Bool.and_eq_true] at hm; exact hm.1)
  | .val (.blt f es), w, k, N, fb, X, py, hX, tk, hm => val_plain hX (sndE (.blt f es) hX tk (by simp only [mT, Bool.and_eq_true] at hm; exact hm.2)) (by simp only [mT, Bool.and_eq_true] at hm; exact hm.1)
  | .val (.lrg2 a b), w, k, N, fb, X, py, hX, tk, hm => val_plain hX (sndE (.lrg2 a b) hX tk (by simp only [mT, Bool.and_eq_true] at hm; exact hm.2)) (by simp only [mT, Bool.and_eq_true] at hm; exact hm.1)
  | .val (.lrg a), w, k, N, fb, X, py, hX, tk, hm => val_plain hX (sndE (.lrg a) hX tk (by simp only [mT, Bool.and_eq_true] at hm; exact hm.2)) (by simp only [mT, Bool.and_eq_true] at hm; exact hm.1)
  | .val (.trg a), w, k, N, fb, X, py, hX, tk, hm => val_plain hX (sndE (.trg a) hX tk (by simp only [mT, Bool.and_eq_true] at hm; exact hm.2)) (by simp only [mT, Bool.and_eq_true] at hm; exact hm.1)
  | .val (.rev a), w, k, N, fb, X, py, hX, tk, hm => val_plain hX (sndE (.rev a) hX tk (by simp only [mT, Bool.and_eq_true] at hm; exact hm.2)) (by simp only [mT, Bool.and_eq_true] at hm; exact hm.1)
  | .val (.isi a t), w, k, N, fb, X, py, hX, tk, hm => val_plain hX (sndE (.isi a t) hX tk (by simp only [mT, Bool.and_eq_true] at hm; exact hm.2)) (by simp only [mT, Bool.and_eq_true] at hm; exact hm.1)
  | .val (.mth1 m i e), w, k, N, fb, X, py, hX, tk, hm => val_plain hX (sndE (.mth1 m i e) hX tk (by simp only [mT, Bool.and_eq_true] at hm; exact hm.2)) (by simp only [mT, Bool.and_eq_true] at hm; exact hm.1)
  | .val (.pop0 i), w, k, N, fb, X, py, hX, tk, hm => val_plain hX (sndE (.pop0 i) hX tk (by simp only [mT, Bool.and_eq_true] at hm; exact hm.2)) (by simp only [mT, Bool.and_eq_true] at hm; exact hm.1)
  | .val (.ins i a b), w, k, N, fb, X, py, hX, tk, hm => val_plain hX (sndE (.ins i a b) hX tk (by simp only [mT, Bool.and_eq_true] at hm; exact hm.2)) (by simp only [mT, Bool.and_eq_true] at hm; exact hm.1)
  | .val (.ixof a b), w, k, N, fb, X, py, hX, tk, hm => val_plain hX (sndE (.ixof a b) hX tk (by simp only [mT, Bool.and_eq_true] at hm; exact hm.2)) (by simp only [mT, Bool.and_eq_true] at hm; exact hm.1)
  | .val (.dlit a b), w, k, N, fb, X, py, hX, tk, hm => val_plain hX (sndE (.dlit a b) hX tk (by simp only [mT, Bool.and_eq_true] at hm; exact hm.2)) (by simp only [mT, Bool.and_eq_true] at hm; exact hm.1)
  | .val (.dg1 a b), w, k, N, fb, X, py, hX, tk, hm => val_plain hX (sndE (.dg1 a b) hX tk (by simp only [mT, Bool.and_eq_true] at hm; exact hm.2)) (by simp only [mT, Bool.and_eq_true] at hm; exact hm.1)
  | .val (.dg2 a b d), w, k, N, fb, X, py, hX, tk, hm => val_plain hX (sndE (.dg2 a b d) hX tk (by simp only [mT, Bool.and_eq_true] at hm; exact hm.2)) (by simp only [mT, Bool.and_eq_true] at hm; exact hm.1)
  | .val (.items i), w, k, N, fb, X, py, hX, tk, hm => val_plain hX (sndE (.items i) hX tk (by simp only [mT, Bool.and_eq_true] at hm; exact hm.2)) (by simp only [mT, Bool.and_eq_true] at hm; exact hm.1)
  | .val (.strI a), w, k, N, fb, X, py, hX, tk, hm => val_plain hX (sndE (.strI a) hX tk (by simp only [mT, Bool.and_eq_true] at hm; exact hm.2)) (by simp only [mT, Bool.and_eq_true] at hm; exact hm.1)
  | .val (.srtk a b), w, k, N, fb, X, py, hX, tk, hm => val_plain hX (sndE (.srtk a b) hX tk (by simp only [mT, Bool.and_eq_true] at hm; exact hm.2)) (by simp only [mT, Bool.and_eq_true] at hm; exact hm.1)
  | .val (.lc own tg tup it c e), w, k, N, fb, X, py, hX, tk, hm => val_plain hX (sndE (.lc own tg tup it c e) hX tk (by simp only [mT, Bool.and_eq_true] at hm; exact hm.2)) (by simp only [mT, Bool.and_eq_true] at hm; exact hm.1)
  | .val (.lco own tg tup i c e), w, k, N, fb, X, py, hX, tk, hm => val_plain hX (sndE (.lco own tg tup i c e) hX tk (by simp only [mT, Bool.and_eq_true] at hm; exact hm.2)) (by simp only [mT, Bool.and_eq_true] at hm; exact hm.1)
  | .val (.lc2 own tg tup it c e), w, k, N, fb, X, py, hX, tk, hm => val_plain hX (sndE (.lc2 own tg tup it c e) hX tk (by simp only [mT, Bool.and_eq_true] at hm; exact hm.2)) (by simp only [mT, Bool.and_eq_true] at hm; exact hm.1)
  | .val (.dc kt own tg tup it c kk vv), w, k, N, fb, X, py, hX, tk, hm => val_plain hX (sndE (.dc kt own tg tup it c kk vv) hX tk (by simp only [mT, Bool.and_eq_true] at hm; exact hm.2)) (by simp only [mT, Bool.and_eq_true] at hm; exact hm.1)
  | .val (.dck kt own tg tup i c kk vv), w, k, N, fb, X, py, hX, tk, hm => val_plain hX (sndE (.dck kt own tg tup i c kk vv) hX tk (by simp only [mT, Bool.and_eq_true] at hm; exact hm.2)) (by simp only [mT, Bool.and_eq_true] at hm; exact hm.1)
  | .and a b, w, k, N, fb, X, py, hX, tk, hm => by
    cases py <;> first | (exfalso; revert hm; simp [mT]; done) | skip
    rename_i op vs pos
    cases op <;> first | (exfalso; revert hm; simp [mT]; done) | skip
    match vs, hm with
    | x :: y :: rest, hm =>
      simp only [mT, Bool.and_eq_true] at hm
      have hb : PW X (.BoolOp .And (y :: rest) pos) (semT w b) := by
        cases rest with
        | nil => exact pw_and1 (sndT b hX tk hm.2)
        | cons z rest => exact pw_bool (sndT b hX tk hm.2)
      refine ⟨fun pins s σ H Q I h => (pw_and (sndT a hX tk hm.1) hb).pt.run pins s σ H Q I ?_⟩
      obtain ⟨ev, Z, A, R, h⟩ := h
      simp only [evT] at h
      refine semT_mono (subT R h) fun v H1 ⟨e1, Z1, A1, s1, R1, h1⟩ => ?_
      cases v with
      | true => rw [if_pos rfl]; exact ⟨e1, Z1, A1, R1, h1⟩
      | false => rw [if_neg (by simp)]; exact h1 H1 Z1 A1 (Same.refl _) R1
    | [], hm => exact absurd hm (by simp [mT])
    | [_], hm => exact absurd hm (by simp [mT])
  | .or a b, w, k, N, fb, X, py, hX, tk, hm => by
    cases py <;> first | (exfalso; revert hm; simp [mT]; done) | skip
    rename_i op vs pos
    cases op <;> first | (exfalso; revert hm; simp [mT]; done) | skip
    match vs, hm with
    | x :: y :: rest, hm =>
      simp only [mT, Bool.and_eq_true] at hm
      have hb : PW X (.BoolOp .Or (y :: rest) pos) (semT w b) := by
        cases rest with
        | nil => exact pw_or1 (sndT b hX tk hm.2)
        | cons z rest => exact pw_bool (sndT b hX tk hm.2)
      refine ⟨fun pins s σ H Q I h => (pw_or (sndT a hX tk hm.1) hb).pt.run pins s σ H Q I ?_⟩
      obtain ⟨ev, Z, A, R, h⟩ := h
      simp only [evT] at h
      refine semT_mono (subT R h) fun v H1 ⟨e1, Z1, A1, s1, R1, h1⟩ => ?_
      cases v with
      | true => rw [if_pos rfl]; exact h1 H1 Z1 A1 (Same.refl _) R1
      | false => rw [if_neg (by simp)]; exact ⟨e1, Z1, A1, R1, h1⟩
    | [], hm => exact absurd hm (by simp [mT])
    | [_], hm => exact absurd hm (by simp [mT])
  | .not a, w, k, N, fb, X, py, hX, tk, hm => by
    cases py <;> first | (exfalso; revert hm; simp [mT]; done) | skip
    rename_i op _ _
    cases op <;> first | (exfalso; revert hm; simp [mT]; done) | skip
    simp only [mT] at hm
    refine ⟨fun pins s σ H Q I h => (pt_not (sndT a hX tk hm)).run pins s σ H Q I ?_⟩
    obtain ⟨ev, Z, A, R, h⟩ := h
    simp only [evT] at h
    refine semT_mono (subT R h) fun v H1 ⟨e1, Z1, A1, s1, R1, h1⟩ => ?_
    exact h1 H1 Z1 A1 (Same.refl _) R1
termination_by e => sizeOf e
decreasing_by all_goals (simp_wf; try omega)
theorem sndEs : ∀ (e : Es) {w : Wd} {k : Nat} {N : List Str} {fb : Str → Bool} {X : Cx} {py : List Expr}, XOk w k N fb X → Takes X w.W → mEs N w.ren e X.env.scope py = true → PA X py (semEs w e)
  | .nil, w, k, N, fb, X, py, hX, tk, hm => by
    cases py with
    | cons _ _ => simp [mEs] at hm
    | nil =>
      refine ⟨fun p pins s σ H Q I h => pa_nil.run p pins s σ H Q I ?_⟩
      obtain ⟨ev, Z, A, R, h⟩ := h
      exact h H Z A (Same.refl _) R [] trivial
  | .cons e es, w, k, N, fb, X, py, hX, tk, hm => by
    cases py with
    | nil => simp [mEs] at hm
    | cons y ys =>
      simp only [mEs, Bool.and_eq_true] at hm
      refine ⟨fun p pins s σ H Q I h => (pa_cons (sndE e hX tk hm.1) (sndEs es hX tk hm.2) (star_of (mE_noStar hm.1))).run p pins s σ H Q I ?_⟩
      obtain ⟨ev, Z, A, R, h⟩ := h
      simp only [evEs] at h
      refine semE_mono (sub1 R h) fun x H1 ⟨r, e1, Z1, A1, s1, R1, q1, h1⟩ => semEs_mono (subEs R1 h1) fun xs H2 ⟨rs, e2, Z2, A2, s2, R2, q2, h2⟩ => ?_
      refine h2 H2 Z2 A2 (Same.refl _) R2 (x :: xs) ⟨?_, q2⟩
      rw [stl_stl]
      exact q1.later s2
termination_by e => sizeOf e
decreasing_by all_goals (simp_wf; try omega)
theorem sndO : ∀ (e : O) {w : Wd} {k : Nat} {N : List Str} {fb : Str → Bool} {X : Cx} {py : Option Expr}, XOk w k N fb X → Takes X w.W → mO N w.ren e X.env.scope py = true → PO X py (semO w e)
  | .no, w, k, N, fb, X, py, hX, tk, hm => by
    cases py with
    | some _ => simp [mO] at hm
    | none =>
      refine ⟨fun pins s σ H Q I h => po_none.run pins s σ H Q I ?_⟩
      obtain ⟨ev, Z, A, R, h⟩ := h
      exact h H Z A (Same.refl _) R
  | .so e, w, k, N, fb, X, py, hX, tk, hm => by
    cases py with
    | none => simp [mO] at hm
    | some y =>
      simp only [mO] at hm
      refine ⟨fun pins s σ H Q I h => (po_some (sndE e hX tk hm)).run pins s σ H Q I ?_⟩
      obtain ⟨ev, Z, A, R, h⟩ := h
      simp only [evO] at h
      refine semE_mono (sub1 R h) fun x H1 ⟨r, e1, Z1, A1, s1, R1, q1, h1⟩ => ?_
      split at h1
      · rename_i i hd
        cases (R1.rdv q1 hd).int
        exact ⟨i, rfl, h1 H1 Z1 A1 (Same.refl _) R1⟩
      · exact h1.elim
termination_by e => sizeOf e
decreasing_by all_goals (simp_wf; try omega)
theorem sndC : ∀ (e : C) {w : Wd} {k : Nat} {N : List Str} {fb : Str → Bool} {X : Cx} {py : List Expr}, XOk w k N fb X → Takes X w.W → mC N w.ren e X.env.scope py = true → PTs X py (semC w e)
  | .no, w, k, N, fb, X, py, hX, tk, hm => by
    cases py with
    | cons _ _ => simp [mC] at hm
    | nil =>
      refine ⟨fun pins s σ H Q I h => pts_nil.run pins s σ H Q I ?_⟩
      obtain ⟨ev, Z, A, R, h⟩ := h
      exact h H Z A (Same.refl _) R
  | .so t, w, k, N, fb, X, py, hX, tk, hm => by
    match py, hm with
    | [], hm => exact absurd hm (by simp [mC])
    | _ :: _ :: _, hm => exact absurd hm (by simp [mC])
    | [y], hm =>
      simp only [mC] at hm
      exact ⟨fun pins s σ H Q I h => (pts_one (sndT t hX tk hm)).run pins s σ H Q I h⟩
termination_by e => sizeOf e
decreasing_by all_goals (simp_wf; try omega)
theorem sndIt : ∀ (e : It) {w : Wd} {k : Nat} {N : List Str} {fb : Str → Bool} {X : Cx} {tg py : Expr}, XOk w k N fb X → Takes X w.W → mIt N w.ren e X.env.scope tg py = true → PI X tg py (semIt w e)
  | .seq e, w, k, N, fb, X, tg, py, hX, tk, hm => by
    have hm' : mE N w.ren e X.env.scope py = true := by simpa [mIt] using hm
    refine ⟨fun pins s σ H Q I h => (pi_seq (sndE e hX tk hm')).run pins s σ H Q I ?_⟩
    obtain ⟨ev, Z, A, R, h⟩ := h
    simp only [evIt] at h
    refine semE_mono (sub1 R h) fun x H1 ⟨r, e1, Z1, A1, s1, R1, q1, h1⟩ => ?_
    rw [hX.K]
    split at h1
    · rename_i d e2 hd
      obtain ⟨Z2, A2, s2, R2, rp⟩ := R1.esc q1 hd
      cases hs : seqOf d with
      | none => rw [hs] at h1; exact h1.elim
      | some ds =>
        rw [hs] at h1
        have fin := h1 H1 Z2 A2 s2 R2
        unfold seqOf at hs
        split at hs <;> cases hs
        · cases rp with
          | lst g1 g2 g3 => exact ⟨_, rfl, .inl ⟨⟨_, .inl (.inl (R2.sub _ _ g1))⟩, fin _ (walkOk_list g2 g1 g3)⟩⟩
        · cases rp with
          | tup g1 g2 g3 => exact ⟨_, rfl, .inr ⟨⟨_, .inl (.inl (R2.sub _ _ g1))⟩, fin _ (walkOk_tup g2 (fun Z H a b => .inl (.inl (b _ _ (a _ _ g1)))) g3)⟩⟩
        · cases rp with
          | ktup g1 g2 g3 => exact ⟨_, rfl, .inr ⟨⟨_, sqT_k g1⟩, fin _ (walkOk_tup g2 (fun Z H _ _ => sqT_k g1) g3)⟩⟩
    · exact h1.elim
  | .rng a, w, k, N, fb, X, tg, py, hX, tk, hm => by
    cases py <;> first | (exfalso; revert hm; simp [mIt]; done) | skip
    rename_i fn as kws pos
    cases fn <;> first | (exfalso; revert hm; simp [mIt]; done) | skip
    match as, kws, hm with
    | [], _, hm => exact absurd hm (by simp [mIt])
    | _ :: _ :: _, _, hm => exact absurd hm (by simp [mIt])
    | [y], _ :: _, hm => exact absurd hm (by simp [mIt])
    | [y], [], hm =>
      simp only [mIt, Bool.and_eq_true] at hm
      obtain ⟨⟨h1, h2⟩, h3⟩ := hm
      cases isN_eq h1
      have st := star_of (env := X.env) (es := []) (mE_noStar h3)
      refine ⟨fun pins s σ H Q I h => (pi_range1 (glb_gl h2) (hX.blt "range" (by decide)) (pa_cons (sndE a hX tk h3) pa_nil st) (by rw [st]; rfl)).run pins s σ H Q I ?_⟩
      obtain ⟨ev, Z, A, R, h⟩ := h
      simp only [evIt] at h
      refine semE_mono (sub1 R h) fun x H1 ⟨r, e1, Z1, A1, s1, R1, q1, h1⟩ => ?_
      split at h1
      · rename_i n hd
        cases (R1.rdv q1 hd).int
        split at h1
        · rename_i hn
          have hn2 : n ≤ 16777216 := hn.2
          exact ⟨n, rfl, by omega, by omega, h1 H1 Z1 A1 (Same.refl _) R1 _ (walkOk_range 0 _ (by rw [sizeLine_eq]; omega))⟩
        · exact h1.elim
      · exact h1.elim
  | .rng2 a b, w, k, N, fb, X, tg, py, hX, tk, hm => by
    cases py <;> first | (exfalso; revert hm; simp [mIt]; done) | skip
    rename_i fn as kws pos
    cases fn <;> first | (exfalso; revert hm; simp [mIt]; done) | skip
    match as, kws, hm with
    | [], _, hm => exact absurd hm (by simp [mIt])
    | [_], _, hm => exact absurd hm (by simp [mIt])
    | _ :: _ :: _ :: _, _, hm => exact absurd hm (by simp [mIt])
    | [y, z], _ :: _, hm => exact absurd hm (by simp [mIt])
    | [y, z], [], hm =>
      simp only [mIt, Bool.and_eq_true] at hm
      obtain ⟨⟨⟨h1, h2⟩, h3⟩, h4⟩ := hm
      cases isN_eq h1
      have st := star_of (env := X.env) (es := []) (mE_noStar h4)
      have st2 := star_of (env := X.env) (es := [z]) (mE_noStar h3)
      refine ⟨fun pins s σ H Q I h => (pi_range2 (glb_gl h2) (hX.blt "range" (by decide)) (pa_cons (sndE a hX tk h3) (pa_cons (sndE b hX tk h4) pa_nil st) st2) (by rw [st2, st]; rfl) (by rw [st]; rfl)).run pins s σ H Q I ?_⟩
      obtain ⟨ev, Z, A, R, h⟩ := h
      simp only [evIt] at h
      refine semE_mono (sub1 R h) fun x H1 ⟨r, e1, Z1, A1, s1, R1, q1, h1⟩ => semE_mono (sub1 R1 h1) fun y H2 ⟨q, e2, Z2, A2, s2, R2, q2, h2⟩ => ?_
      split at h2
      · rename_i m n hd1 hd2
        rw [rd_stl] at hd1
        cases (R2.rdv (q1.later s2) hd1).int
        cases (R2.rdv q2 hd2).int
        split at h2
        · rename_i hn
          have hn2 : n - m ≤ 16777216 := hn.2.2.2.2
          exact ⟨m, n, rfl, ⟨by omega, by omega, by omega, by omega⟩, h2 H2 Z2 A2 (Same.refl _) R2 _ (walkOk_range m _ (by rw [sizeLine_eq]; omega))⟩
        · exact h2.elim
      · exact h2.elim
  | .enum e, w, k, N, fb, X, tg, py, hX, tk, hm => by
    cases tg <;> first | (exfalso; revert hm; simp [mIt]; done) | skip
    cases py <;> first | (exfalso; revert hm; simp [mIt]; done) | skip
    rename_i fn as kws pos
    cases fn <;> first | (exfalso; revert hm; simp [mIt]; done) | skip
    match as, kws, hm with
    | [], _, hm => exact absurd hm (by simp [mIt])
    | _ :: _ :: _, _, hm => exact absurd hm (by simp [mIt])
    | [y], _ :: _, hm => exact absurd hm (by simp [mIt])
    | [y], [], hm =>
      simp only [mIt, Bool.and_eq_true] at hm
      obtain ⟨⟨h1, h2⟩, h3⟩ := hm
      cases isN_eq h1
      have st := star_of (env := X.env) (es := []) (mE_noStar h3)
      refine ⟨fun pins s σ H Q I h => (pi_enumA (glb_gl h2) (hX.blt "enumerate" (by decide)) (pa_cons (sndE e hX tk h3) pa_nil st) (by rw [st]; rfl)).run pins s σ H Q I ?_⟩
      obtain ⟨ev, Z, A, R, h⟩ := h
      simp only [evIt] at h
      refine semE_mono (sub1 R h) fun x H1 ⟨r, e1, Z1, A1, s1, R1, q1, h1⟩ => ?_
      rw [hX.K]
      split at h1
      · rename_i d e2 hd
        obtain ⟨Z2, A2, s2, R2, rp⟩ := R1.esc q1 hd
        split at h1
        · have fin := h1 H1 Z2 A2 s2 R2
          cases rp with
          | lst g1 g2 g3 => exact ⟨_, rfl, .inl ⟨⟨_, .inl (.inl (R2.sub _ _ g1))⟩, fin _ (walkOk_enum g2 g1 g3)⟩⟩
        · have fin := h1 H1 Z2 A2 s2 R2
          cases rp with
          | tup g1 g2 g3 => exact ⟨_, rfl, .inr ⟨_, .inl (.inl (R2.sub _ _ g1)), fin _ (walkOk_enumT g2 g1 g3)⟩⟩
        · exact h1.elim
      · exact h1.elim
  | .zip a b, w, k, N, fb, X, tg, py, hX, tk, hm => by
    cases tg <;> first | (exfalso; revert hm; simp [mIt]; done) | skip
    cases py <;> first | (exfalso; revert hm; simp [mIt]; done) | skip
    rename_i fn as kws pos
    cases fn <;> first | (exfalso; revert hm; simp [mIt]; done) | skip
    match as, kws, hm with
    | [], _, hm => exact absurd hm (by simp [mIt])
    | [_], _, hm => exact absurd hm (by simp [mIt])
    | _ :: _ :: _ :: _, _, hm => exact absurd hm (by simp [mIt])
    | [y, z], _ :: _, hm => exact absurd hm (by simp [mIt])
    | [y, z], [], hm =>
      simp only [mIt, Bool.and_eq_true] at hm
      obtain ⟨⟨⟨h1, h2⟩, h3⟩, h4⟩ := hm
      cases isN_eq h1
      have st := star_of (env := X.env) (es := []) (mE_noStar h4)
      have st2 := star_of (env := X.env) (es := [z]) (mE_noStar h3)
      refine ⟨fun pins s σ H Q I h => (pi_zipM (glb_gl h2) (hX.blt "zip" (by decide)) (pa_cons (sndE a hX tk h3) (pa_cons (sndE b hX tk h4) pa_nil st) st2) st2 (by rw [st]; rfl)).run pins s σ H Q I ?_⟩
      obtain ⟨ev, Z, A, R, h⟩ := h
      simp only [evIt] at h
      refine semE_mono (sub1 R h) fun x H1 ⟨r, e1, Z1, A1, s1, R1, q1, h1⟩ => ?_
      rw [hX.K]
      split at h1
      · rename_i d e2 hd
        obtain ⟨Z2, A2, s2, R2, rp⟩ := R1.esc q1 hd
        refine semE_mono (sub1 R2 (Out.same h1 s2)) fun y H2 ⟨q, e3, Z3, A3, s3, R3, q3, h3⟩ => ?_
        split at h3
        · rename_i d2 e4 hd2
          obtain ⟨Z4, A4, s4, R4, rp2⟩ := R3.esc q3 hd2
          have rp := rp.mono (s3.trans s4)
          split at h3
          · have fin := h3 H2 Z4 A4 s4 R4
            cases rp with
            | lst g1 g2 g3 =>
              cases rp2 with
              | lst k1 k2 k3 => exact ⟨true, true, _, _, _, _, rfl, .inl (.inl (R4.sub _ _ g1)), .inl (.inl (R4.sub _ _ k1)), fin _ (walkOk_zipM (k1 := true) (k2 := true) g2 g1 k1 g3 k3)⟩
          · have fin := h3 H2 Z4 A4 s4 R4
            cases rp with
            | tup g1 g2 g3 =>
              cases rp2 with
              | tup k1 k2 k3 => exact ⟨false, false, _, _, _, _, rfl, .inl (.inl (R4.sub _ _ g1)), .inl (.inl (R4.sub _ _ k1)), fin _ (walkOk_zipM (k1 := false) (k2 := false) g2 g1 k1 g3 k3)⟩
          · have fin := h3 H2 Z4 A4 s4 R4
            cases rp with
            | lst g1 g2 g3 =>
              cases rp2 with
              | tup k1 k2 k3 => exact ⟨true, false, _, _, _, _, rfl, .inl (.inl (R4.sub _ _ g1)), .inl (.inl (R4.sub _ _ k1)), fin _ (walkOk_zipM (k1 := true) (k2 := false) g2 g1 k1 g3 k3)⟩
          · have fin := h3 H2 Z4 A4 s4 R4
            cases rp with
            | tup g1 g2 g3 =>
              cases rp2 with
              | lst k1 k2 k3 => exact ⟨false, true, _, _, _, _, rfl, .inl (.inl (R4.sub _ _ g1)), .inl (.inl (R4.sub _ _ k1)), fin _ (walkOk_zipM (k1 := false) (k2 := true) g2 g1 k1 g3 k3)⟩
          · exact h3.elim
        · exact h3.elim
      · exact h1.elim
termination_by e => sizeOf e
decreasing_by all_goals (simp_wf; try omega)
end
end Bide

set_option autoImplicit false
set_option Elab.async false
set_option maxRecDepth 100000
set_option linter.all false
/-! What a statement's evaluation says; the parts of the statements' soundness. -/
namespace Bide
open PySem L2

def OutS (w : Wd) (Z : Hp) (r : R Fl) (De : Ends) : Prop :=
  match r with
  | .ok .nx e => ∀ σ H' Z' A', Same Z Z' → RS w.K w.c σ H' Z' e A' → De.nx σ H'
  | .ok .br e => ∀ σ H' Z' A', Same Z Z' → RS w.K w.c σ H' Z' e A' → De.bk σ H'
  | .ok .ct e => ∀ σ H' Z' A', Same Z Z' → RS w.K w.c σ H' Z' e A' → De.ct σ H'
  | .ok (.rt q) e => ∀ σ H' Z' A' x, Same Z Z' → RS w.K w.c σ H' Z' e A' → RR w.K w.c σ H' Z' e A' x q → De.rt x H'
  | .ex x e => ∀ σ H' Z' A' cls dd, Same Z Z' → RS w.K w.c σ H' Z' e A' → ExOk w.K w.ca w.xf x cls dd H' Z' → w.W cls dd σ H'
  | .bad => False
def semS (w : Wd) (s : S) : TS := fun De σ H => ∃ ev Z A, RS w.K w.c σ H Z ev A ∧ OutS w Z (evS w.cf s ev) De
def semSs (w : Wd) (s : Ss) : TS := fun De σ H => ∃ ev Z A, RS w.K w.c σ H Z ev A ∧ OutS w Z (evSs w.cf s ev) De
section
variable {w : Wd} {α : Type} {σ : L2.St} {H Z Z' : Hp} {ev : Ev} {A : Nat → List Addr} {De : Ends}
theorem OutS.same {r : R Fl} (h : OutS w Z r De) (s : Same Z Z') : OutS w Z' r De := by
  cases r with
  | ok a e =>
    cases a with
    | nx => exact fun σ H' Z'' A' s' => h σ H' Z'' A' (s.trans s')
    | br => exact fun σ H' Z'' A' s' => h σ H' Z'' A' (s.trans s')
    | ct => exact fun σ H' Z'' A' s' => h σ H' Z'' A' (s.trans s')
    | rt q => exact fun σ H' Z'' A' x s' => h σ H' Z'' A' x (s.trans s')
  | ex x e => exact fun σ H' Z'' A' cls dd s' => h σ H' Z'' A' cls dd (s.trans s')
  | bad => exact h
theorem OutS.bnd {r : R α} {f : α → Ev → R Fl} (h : OutS w Z (r.bind f) De) : Out w σ Z r (fun a e _ Z1 _ => OutS w Z1 (f a e) De) := by
  cases r with
  | ok a e => exact fun H' Z'' A' s' _ => OutS.same (r := f a e) h s'
  | ex x e => exact fun H' Z'' A' cls dd s' => h σ H' Z'' A' cls dd s'
  | bad => exact h
/-- a part of a statement: its value as it is -/
theorem stm0 {e : E} {f : RV → Ev → R Fl} (R : RS w.K w.c σ H Z ev A) (h : OutS w Z ((evE w.cf e ev).bind f) De) :
    semE w e σ H fun x H1 => ∃ r e1 Z1 A1, Same Z Z1 ∧ RS w.K w.c σ H1 Z1 e1 A1 ∧ RR w.K w.c σ H1 Z1 e1 A1 x r ∧ OutS w Z1 (f r e1) De :=
  ⟨ev, Z, A, R, h.bnd.imp fun r e1 H1 Z1 A1 s1 R1 q x rr => ⟨r, e1, Z1, A1, s1, R1, rr, q⟩⟩
/-- .. settled -/
theorem stm1 {e : E} {f : RV → Ev → R Fl} (R : RS w.K w.c σ H Z ev A) (h : OutS w Z ((evE w.cf e ev).bind f) De) :
    semE w e σ H fun x H1 => ∃ r e1 Z1 A1, Same Z Z1 ∧ RS w.K w.c σ H1 Z1 e1 A1 ∧ RR w.K w.c σ H1 Z1 e1 A1 x (stl r) ∧ OutS w Z1 (f r e1) De := by
  refine semE_mono (stm0 R h) fun x H1 ⟨r, e1, Z1, A1, s1, R1, rr, q⟩ => ?_
  obtain ⟨Z2, s2, R2, q2⟩ := R1.stl rr
  exact ⟨r, e1, Z2, A1, s1.trans s2, R2, q2, q.same s2⟩
theorem stmT {t : T} {f : Bool → Ev → R Fl} (R : RS w.K w.c σ H Z ev A) (h : OutS w Z ((evT w.cf t ev).bind f) De) :
    semT w t σ H fun b H1 => ∃ e1 Z1 A1, Same Z Z1 ∧ RS w.K w.c σ H1 Z1 e1 A1 ∧ OutS w Z1 (f b e1) De :=
  ⟨ev, Z, A, R, h.bnd.imp fun r e1 H1 Z1 A1 s1 R1 q => ⟨e1, Z1, A1, s1, R1, q⟩⟩
theorem stmEs {t : Es} {f : List RV → Ev → R Fl} (R : RS w.K w.c σ H Z ev A) (h : OutS w Z ((evEs w.cf t ev).bind f) De) :
    semEs w t σ H fun xs H1 => ∃ rs e1 Z1 A1, Same Z Z1 ∧ RS w.K w.c σ H1 Z1 e1 A1 ∧ RRs w.K w.c σ H1 Z1 e1 A1 xs rs ∧ OutS w Z1 (f rs e1) De :=
  ⟨ev, Z, A, R, h.bnd.imp fun r e1 H1 Z1 A1 s1 R1 q xs rr => ⟨r, e1, Z1, A1, s1, R1, rr, q⟩⟩
def Es.n : Es → Nat
  | .nil => 0
  | .cons _ es => es.n + 1
theorem evEs_n {c : Cf} : ∀ (es : Es) {ev e : Ev} {rs : List RV}, evEs c es ev = .ok rs e → rs.length = es.n
  | .nil, ev, e, rs, h => by simp only [evEs, R.ok.injEq] at h; rw [← h.1]; rfl
  | .cons x es, ev, e, rs, h => by
    simp only [evEs] at h
    cases h1 : evE c x ev with
    | ok r e1 =>
      rw [h1] at h
      simp only [R.bind] at h
      cases h2 : evEs c es e1 with
      | ok rs2 e2 =>
        rw [h2] at h
        simp only [R.ok.injEq] at h
        rw [← h.1, List.length_cons, evEs_n es h2]
        rfl
      | ex x e => rw [h2] at h; cases h
      | bad => rw [h2] at h; cases h
    | ex x e => rw [h1] at h; cases h
    | bad => rw [h1] at h; cases h
theorem escs_n : ∀ {rs : List RV} {ev e : Ev} {ds : List D}, escs ev rs = some (ds, e) → ds.length = rs.length
  | [], ev, e, ds, h => by simp only [escs, Option.some.injEq, Prod.mk.injEq] at h; rw [← h.1]; rfl
  | r :: rs, ev, e, ds, h => by
    simp only [escs] at h
    split at h
    · split at h
      · rename_i d ev1 _ ds2 ev2 h2
        simp only [Option.some.injEq, Prod.mk.injEq] at h
        rw [← h.1, List.length_cons, escs_n h2, List.length_cons]
      · cases h
    · cases h
theorem mEs_n {N : List Str} {ren : String → String} {sc : Scope} : ∀ {es : Es} {ys : List Expr}, mEs N ren es sc ys = true → es.n = ys.length
  | .nil, [], _ => rfl
  | .nil, _ :: _, h => by simp [mEs] at h
  | .cons _ _, [], h => by simp [mEs] at h
  | .cons e es, y :: ys, h => by
    simp only [mEs, Bool.and_eq_true] at h
    rw [List.length_cons, ← mEs_n h.2]
    rfl
/-- .. and how many they are -/
theorem stmEsN {t : Es} {f : List RV → Ev → R Fl} (R : RS w.K w.c σ H Z ev A) (h : OutS w Z ((evEs w.cf t ev).bind f) De) :
    semEs w t σ H fun xs H1 => ∃ rs e1 Z1 A1, Same Z Z1 ∧ RS w.K w.c σ H1 Z1 e1 A1 ∧ RRs w.K w.c σ H1 Z1 e1 A1 xs rs ∧ rs.length = t.n ∧ OutS w Z1 (f rs e1) De :=
  ⟨ev, Z, A, R, h.bnd.impE fun r e1 he H1 Z1 A1 s1 R1 q xs rr => ⟨r, e1, Z1, A1, s1, R1, rr, evEs_n t he, q⟩⟩
/-- a name takes a result -/
theorem asg_fin {i : Nat} {x : V} {r : RV} (R : RS w.K w.c σ H Z ev A) (q : RR w.K w.c σ H Z ev A x r) (h : OutS w Z (match putR ev i r with
    | some e2 => .ok .nx e2
    | none => .bad) De) : De.nx (σ.set i (some x)) H := by
  cases r with
  | v d =>
    simp only [putR] at h
    split at h
    · rename_i e2 he
      obtain ⟨A', R'⟩ := R.setV q he
      exact h _ H Z A' (Same.refl _) R'
    · exact h.elim
  | f o =>
    simp only [putR] at h
    split at h
    · rename_i e2 he
      have : ∃ sv, ev[i]? = some sv ∧ ¬ sv.isIo ∧ e2 = ev.set i (.ow o) := by
        unfold setV at he
        split at he
        · cases he
        · cases he
        · rename_i h1 h2
          cases he
          cases hs : ev[i]? with
          | none => exact absurd hs h2
          | some sv => exact ⟨sv, rfl, fun z => by cases sv with
            | io ds => exact h1 ds hs
            | _ => exact z, rfl⟩
      obtain ⟨sv, h1, h2, rfl⟩ := this
      obtain ⟨A', R'⟩ := R.setOw h1 h2 q
      exact h _ H Z A' (Same.refl _) R'
    · exact h.elim
  | s j =>
    simp only [putR] at h
    split at h
    · rename_i e2 he
      split at he
      · rename_i d e1 hd
        obtain ⟨Z1, A1, s1, R1, rp⟩ := R.esc (r := .s j) q hd
        obtain ⟨A', R'⟩ := R1.setV rp he
        exact h _ H Z1 A' s1 R'
      · cases he
    · exact h.elim
theorem setAt_ix {α : Type} {xs ys : List α} {i : Int} {v : α} (h : setAt xs i v = some ys) : ∃ k, ixN xs.length i = some k ∧ k < xs.length ∧ ys = xs.set k v := by
  unfold setAt at h
  split at h
  · rename_i h0
    split at h
    · rename_i h1
      cases h
      refine ⟨i.toNat, ?_, by omega, rfl⟩
      unfold ixN
      rw [if_pos h0, if_pos h1]
    · cases h
  · rename_i h0
    split at h
    · rename_i h1
      cases h
      refine ⟨(i + xs.length).toNat, ?_, by omega, rfl⟩
      unfold ixN
      rw [if_neg h0, if_pos (by omega)]
    · cases h
end
end Bide

set_option autoImplicit false
set_option Elab.async false
set_option maxRecDepth 100000
set_option linter.all false
set_option maxHeartbeats 4000000
/-! The soundness of statements, part by part. -/
namespace Bide
open PySem L2

def fT : Str → Bool := fun _ => true
def swapB (py : Expr) (x : Str) (p : Pos) (sc : Scope) : Bool := match py with
  | .ListComp _ _ s q => (sc.names.lookup x == some .local) && (p.line == q.line) && !(s.names.any fun (n, k) => n == x && (k == .local || k == .cell))
  | .DictComp _ _ _ s q => (sc.names.lookup x == some .local) && (p.line == q.line) && !(s.names.any fun (n, k) => n == x && (k == .local || k == .cell))
  | _ => false
/-- not a set built by a comprehension -/
def lcOnly : Expr → Bool
  | .SetComp _ _ _ _ => false
  | _ => true
def notLc : Expr → Bool
  | .ListComp _ _ _ _ => false
  | .DictComp _ _ _ _ _ => false
  | _ => true
def notTup : Expr → Bool
  | .Tuple _ _ _ => false
  | _ => true
theorem swap_eq {py : Expr} {x : Str} {p : Pos} {l : Nat} {env : Env} (hk : env.scope.kind = .function) (hn : lcOnly py = true) : swapsWith py (some (.Name x p)) l env = pure (swapB py x p env.scope) := by
  have hb : env.blockKind = .function := by unfold Env.blockKind; rw [hk]; rfl
  cases py <;> first | (cases hn; done) | rfl | skip
  all_goals (unfold swapsWith swapB; simp only [hb, Expr.pos]; rfl)
theorem swap_sub {py o i : Expr} {p : Pos} {l : Nat} {env : Env} : swapsWith py (some (.Subscript o i p)) l env = pure false := by cases py <;> rfl
theorem swap_tup {py : Expr} {es : List Expr} {k : Nat} {p : Pos} {l : Nat} {env : Env} : swapsWith py (some (.Tuple es k p)) l env = pure false := by cases py <;> rfl
theorem sole_sub {py o i : Expr} {p : Pos} {l : Nat} {env : Env} : swapsWithSole [.Subscript o i p] py l env = pure false := by cases py <;> rfl
theorem sole_tup {py : Expr} {es : List Expr} {k : Nat} {p : Pos} {l : Nat} {env : Env} : swapsWithSole [.Tuple es k p] py l env = pure false := by cases py <;> rfl
theorem assign_sub {o i : Expr} {p : Pos} {env : Env} (h : noStar i = true) : ∀ v, assign (.Subscript o i p) env v = (do
      let ov ← holding [v] (eval o env)
      let iv ← holding [v, ov] (eval i env)
      standAt p
      holding [v, ov, iv] (setItem ov iv v)
      release [v, ov, iv] []) := by
  intro v
  cases i <;> first | (cases h; done) | rfl
theorem swap_none {py : Expr} {l : Nat} {env : Env} (h1 : lcOnly py = true) (h2 : notLc py = true) : swapsWith py none l env = pure false := by cases py <;> first | (cases h1; done) | (cases h2; done) | rfl
/-- a name among the targets that an inner block captures: the pair is made as usual -/
def cellT (sc : Scope) (es : List Expr) : Bool := es.any fun e => match e with
  | .Name x _ => decide (sc.names.lookup x = some .cell)
  | _ => false
theorem fm_short {α β : Type} {f : α → Option β} : ∀ {l : List α}, (∃ a ∈ l, f a = none) → (l.filterMap f).length < l.length
  | [], ⟨a, h, _⟩ => by cases h
  | x :: l, ⟨a, h, e⟩ => by
    rcases List.mem_cons.mp h with rfl | h
    · rw [List.filterMap_cons_none e]
      have := List.length_filterMap_le f l
      simp only [List.length_cons]
      omega
    · have := fm_short (f := f) ⟨a, h, e⟩
      cases q : f x with
      | none => rw [List.filterMap_cons_none q]; simp only [List.length_cons]; omega
      | some y => rw [List.filterMap_cons_some q]; simp only [List.length_cons]; omega
theorem stores_cell {py : Expr} {es : List Expr} {k : Nat} {p : Pos} {env : Env} (h : cellT env.scope es = true) : swappedStores [.Tuple es k p] py env = pure none := by
  cases py <;> first | rfl | skip
  rename_i vs k2 p2
  unfold swappedStores
  simp only []
  split
  · rfl
  split
  · rfl
  refine (if_pos ?_).trans rfl
  · rw [Bool.or_eq_true]
    left
    rw [bne_iff_ne]
    unfold cellT at h
    rw [List.any_eq_true] at h
    obtain ⟨e, he, h⟩ := h
    refine Nat.ne_of_lt (fm_short ⟨e, he, ?_⟩)
    cases e <;> first | (cases h; done) | skip
    rename_i x pos
    have hx : env.kindOf x = some .cell := by
      unfold Env.kindOf
      simp [of_decide_eq_true h]
    simp [hx]
theorem stores_tup {py : Expr} {es : List Expr} {k : Nat} {p : Pos} {env : Env} (h : notTup py = true) : swappedStores [.Tuple es k p] py env = pure none := by cases py <;> first | (cases h; done) | rfl
theorem stores_sub {py o i : Expr} {p : Pos} {env : Env} : swappedStores [.Subscript o i p] py env = pure none := by cases py <;> rfl
theorem mE_lcOnly {N : List Str} {ren : String → String} {e : E} {sc : Scope} {py : Expr} (h : mE N ren e sc py = true) : lcOnly py = true := by
  cases py <;> first | rfl | (exfalso; revert h; cases e <;> simp [mE])
/-- own exception classes: where they stand, their fields, which is which -/
structure XcOk (K : PySem.W.Frag) (mg : Str → Option Value) (ca : String → Option Addr) (xf : String → List String) : Prop where
  has : ∀ x, xf x ≠ [] → ∃ C, ca x = some C
  mgx : ∀ x C, ca x = some C → mg (sN x) = some (.ref C)
  xfc : ∀ x C, ca x = some C → XfC K C
  nof : ∀ x C, ca x = some C → ∀ f ∈ xf x, PySem.W.findIn K (.ref C) (sN f) = some none
  exm : ∀ x y C D, ca x = some C → ca y = some D → PySem.W.exmOne K (.ref C) (.ref D) = some (decide (x = y))
/-- what a body's statements want -/
structure XSt (w : Wd) (k : Nat) (N : List Str) (xs : List String) (X : Cx) : Prop where
  x : XOk w k N fT X
  kind : X.env.scope.kind = .function
  pass : PassesOwn (model X.prog X.w) X.A X.env X.xe
  exs : ∀ n ∈ xs, ∀ (e : Expr) (es : List Expr) (ta : TA) (p pos : Pos), Gl X (sN n) → PA X (e :: es) ta → (starEach (e :: es) X.env = (false, eval e X.env) :: starEach es X.env) → ((backTo pos (starEach es X.env)).any (·.1) = false) → (es.length + 1 = (w.xf n).length) →
    PMk X (.Call (.Name (sN n) p) (e :: es) [] pos) (fun σ H Q => ta σ H fun vs H1 => ∃ Z ds, Same Z H1 ∧ Rps X.K Z vs ds ∧ ds.length = (w.xf n).length ∧ ∀ cls dd H', Same H1 H' → ExOk X.K w.ca w.xf ⟨n, ds⟩ cls dd H' Z → Q cls dd H')
  stk : X.stack = X.env :: X.outer
  frm : X.env.frame = some X.env.locals
  xc : XcOk X.K X.mg w.ca w.xf
section
variable {w : Wd} {k : Nat} {N : List Str} {xs : List String} {X : Cx}
theorem XSt.hf (h : XSt w k N xs X) : ∀ x, fT x = true → X.fn x = true := h.x.fn
/-- a dict comprehension stored in a name -/
theorem setDc_ok {i : Nat} {x : Str} {p spos : Pos} {e : E} {kx vx : Expr} {gens : List Comprehension} {scope : Scope} {pos : Pos} (hS : XSt w k N xs X) (tk : Takes X w.W) (hm : mE N w.ren e X.env.scope (.DictComp kx vx gens scope pos) = true) (hi : N[i]? = some x) (hl : X.env.scope.names.lookup x = some .local)
    (hs : swapsWith (.DictComp kx vx gens scope pos) (some (.Name x p)) spos.line X.env = pure true) : PS X (.Assign [.Name x p] (.DictComp kx vx gens scope pos) spos) (tAsg (semE w e) (gName i)) := by
  have hX := hS.x
  have hi' : X.N[i]? = some x := by rw [hX.N]; exact hi
  cases e <;> first | (exfalso; revert hm; simp [mE]; done) | skip
  · rename_i kt own tg tup it cd kk vv
    match gens, hm with
    | [], hm => exact absurd hm (by simp [mE])
    | _ :: _ :: _, hm => exact absurd hm (by simp [mE])
    | [⟨t, iter, ifs, z⟩], hm =>
      simp only [mE, Bool.and_eq_true, decide_eq_true_eq] at hm
      obtain ⟨⟨⟨⟨⟨⟨rfl, h1⟩, h2⟩, h3⟩, h4⟩, h5, h5'⟩, h6⟩ := hm
      have ho : ∀ i ∈ tg, i ∈ own := by simpa using h6
      refine ⟨fun pins s σ H De I h => (ps_setDcc (t := kt) (own := ownP N own) (g := gTg w.K tup tg) (tt := anyC w cd) (tk := anyE w kk) (tv := anyE w vv) (by have := hX.units; omega) hX.calm hX.nd hi' hl hs (sndIt it hX tk h3) (blkOk_by (by rw [hX.N]; exact h1)) (fun s' H' C cl fp => ?_) (fun s' H' C cl fp => ?_) (fun s' H' C cl fp => ?_) (fun s' H' C cl fp => ?_) (fold_of (mIt_noStar h3))).run pins s σ H De I ?_⟩
      · rw [← hX.K]
        exact sndTg (X := X.blk s' H' scope (compEnvC scope cl C X.env) fp) (fb := blkFb scope) hX.N hX.nd hX.calm (fun _ z => z) h2
      · exact ⟨fun pins s σ H Q I q => let ⟨c', q⟩ := q; (sndC cd (X := X.blk s' H' scope (compEnvC scope cl C X.env) fp) (hX.blk c') takesF h4).run pins s σ H Q I q⟩
      · exact ⟨fun pins s σ H Q I q => let ⟨c', q⟩ := q; (sndE kk (X := X.blk s' H' scope (compEnvC scope cl C X.env) fp) (hX.blk c') takesF h5).run pins s σ H Q I q⟩
      · exact ⟨fun pins s σ H Q I q => let ⟨c', q⟩ := q; (sndE vv (X := X.blk s' H' scope (compEnvC scope cl C X.env) fp) (hX.blk c') takesF h5').run pins s σ H Q I q⟩
      · obtain ⟨ev, Z, A, R, h⟩ := h
        simp only [evE] at h
        rw [ownP_snd]
        refine ⟨ev, Z, A, R, h.bnd.imp fun ds e1 H1 Z1 A1 s1 R1 q J wk => ?_⟩
        split at q
        · rename_i evs hw
          split at q
          · rename_i xs e2 hl
            exact dc_turns ho wk R1 hw hl q
          · exact q.elim
        · exact q.elim
  · rename_i kt own tg tup j cd kk vv
    match gens, hm with
    | [], hm => exact absurd hm (by simp [mE])
    | _ :: _ :: _, hm => exact absurd hm (by simp [mE])
    | [⟨t, iter, ifs, z⟩], hm =>
      cases iter <;> first | (exfalso; revert hm; simp [mE]; done) | skip
      rename_i y yp
      simp only [mE, Bool.and_eq_true, decide_eq_true_eq] at hm
      obtain ⟨⟨⟨⟨⟨⟨rfl, h1⟩, h2⟩, h3⟩, h4⟩, h5, h5'⟩, h6⟩ := hm
      have ho : ∀ i ∈ tg, i ∈ own := by simpa using h6
      have body : PS X (.Assign [.Name x p] (.DictComp kx vx [⟨t, .Name y yp, ifs, 0⟩] scope pos) spos) (tAsg (tDcc kt (iKeys (tVar j)) (gTg w.K tup tg) (anyC w cd) (anyE w kk) (anyE w vv) ((ownP N own).map (·.2))) (gName i)) := by
        refine ps_setDcc (by have := hX.units; omega) hX.calm hX.nd hi' hl hs (pi_keys (rd_slot hX.N h3)) (blkOk_by (by rw [hX.N]; exact h1)) (fun s' H' C cl fp => ?_) (fun s' H' C cl fp => ?_) (fun s' H' C cl fp => ?_) (fun s' H' C cl fp => ?_) (fold_of rfl)
        · rw [← hX.K]
          exact sndTg (X := X.blk s' H' scope (compEnvC scope cl C X.env) fp) (fb := blkFb scope) hX.N hX.nd hX.calm (fun _ z => z) h2
        · exact ⟨fun pins s σ H Q I q => let ⟨c', q⟩ := q; (sndC cd (X := X.blk s' H' scope (compEnvC scope cl C X.env) fp) (hX.blk c') takesF h4).run pins s σ H Q I q⟩
        · exact ⟨fun pins s σ H Q I q => let ⟨c', q⟩ := q; (sndE kk (X := X.blk s' H' scope (compEnvC scope cl C X.env) fp) (hX.blk c') takesF h5).run pins s σ H Q I q⟩
        · exact ⟨fun pins s σ H Q I q => let ⟨c', q⟩ := q; (sndE vv (X := X.blk s' H' scope (compEnvC scope cl C X.env) fp) (hX.blk c') takesF h5').run pins s σ H Q I q⟩
      rw [ownP_snd] at body
      refine ⟨fun pins s σ H De I h => ?_⟩
      obtain ⟨ev, Z, A, R, h⟩ := h
      rcases dck_turns ho R h with q | q
      · exact body.run pins s σ H De I q
      · exact (ps_lock body).run pins s σ H De I q
/-- a comprehension stored in a name -/
theorem setLc_ok {i : Nat} {x : Str} {p spos : Pos} {e : E} {py : Expr} (hS : XSt w k N xs X) (tk : Takes X w.W) (hm : mE N w.ren e X.env.scope py = true) (hi : N[i]? = some x) (hl : X.env.scope.names.lookup x = some .local)
    (hs : swapsWith py (some (.Name x p)) spos.line X.env = pure true) (hc : notLc py = false) : PS X (.Assign [.Name x p] py spos) (tAsg (semE w e) (gName i)) := by
  have hX := hS.x
  have hi' : X.N[i]? = some x := by rw [hX.N]; exact hi
  cases py <;> first | (cases hc; done) | skip
  case DictComp kx vx gens scope pos => exact setDc_ok hS tk hm hi hl hs
  rename_i elt gens scope pos
  cases e <;> first | (exfalso; revert hm; simp [mE]; done) | skip
  · rename_i own tg tup it cd e
    match gens, hm with
    | [], hm => exact absurd hm (by simp [mE])
    | _ :: _ :: _, hm => exact absurd hm (by simp [mE])
    | [⟨t, iter, ifs, z⟩], hm =>
      simp only [mE, Bool.and_eq_true, decide_eq_true_eq] at hm
      obtain ⟨⟨⟨⟨⟨⟨rfl, h1⟩, h2⟩, h3⟩, h4⟩, h5⟩, h6⟩ := hm
      have ho : ∀ i ∈ tg, i ∈ own := by simpa using h6
      refine ⟨fun pins s σ H Q I h => (ps_setLc (own := ownP N own) (g := gTg w.K tup tg) (tt := anyC w cd) (te := anyE w e) hX.calm hX.nd hi' hl hs (sndIt it hX tk h3) (blkOk_by (by rw [hX.N]; exact h1)) (fun s' H' C cl fp => ?_) (fun s' H' C cl fp => ?_) (fun s' H' C cl fp => ?_) (fold_of (mIt_noStar h3))).run pins s σ H Q I ?_⟩
      · rw [← hX.K]
        exact sndTg (X := X.blk s' H' scope (compEnvC scope cl C X.env) fp) (fb := blkFb scope) hX.N hX.nd hX.calm (fun _ z => z) h2
      · exact ⟨fun pins s σ H Q I q => let ⟨c', q⟩ := q; (sndC cd (X := X.blk s' H' scope (compEnvC scope cl C X.env) fp) (hX.blk c') takesF h4).run pins s σ H Q I q⟩
      · exact ⟨fun pins s σ H Q I q => let ⟨c', q⟩ := q; (sndE e (X := X.blk s' H' scope (compEnvC scope cl C X.env) fp) (hX.blk c') takesF h5).run pins s σ H Q I q⟩
      · obtain ⟨ev, Z, A, R, h⟩ := h
        simp only [evE] at h
        rw [ownP_snd]
        refine ⟨ev, Z, A, R, h.bnd.imp fun ds e1 H1 Z1 A1 s1 R1 q J wk => ?_⟩
        split at q
        · rename_i evs hw
          split at q
          · rename_i xs e2 hl
            exact lc_turns ho (wk.f _) R1 hw hl q
          · exact q.elim
        · exact q.elim
  · rename_i own tg tup j cd e
    match gens, hm with
    | [], hm => exact absurd hm (by simp [mE])
    | _ :: _ :: _, hm => exact absurd hm (by simp [mE])
    | [⟨t, iter, ifs, z⟩], hm =>
      cases iter <;> first | (exfalso; revert hm; simp [mE]; done) | skip
      rename_i y yp
      simp only [mE, Bool.and_eq_true, decide_eq_true_eq] at hm
      obtain ⟨⟨⟨⟨⟨⟨rfl, h1⟩, h2⟩, h3⟩, h4⟩, h5⟩, h6⟩ := hm
      have ho : ∀ i ∈ tg, i ∈ own := by simpa using h6
      refine ⟨fun pins s σ H Q I h => (ps_setLc (own := ownP N own) (g := gTg w.K tup tg) (tt := anyC w cd) (te := anyE w e) hX.calm hX.nd hi' hl hs (pi_seq (rd_slot hX.N h3)) (blkOk_by (by rw [hX.N]; exact h1)) (fun s' H' C cl fp => ?_) (fun s' H' C cl fp => ?_) (fun s' H' C cl fp => ?_) (fold_of rfl)).run pins s σ H Q I ?_⟩
      · rw [← hX.K]
        exact sndTg (X := X.blk s' H' scope (compEnvC scope cl C X.env) fp) (fb := blkFb scope) hX.N hX.nd hX.calm (fun _ z => z) h2
      · exact ⟨fun pins s σ H Q I q => let ⟨c', q⟩ := q; (sndC cd (X := X.blk s' H' scope (compEnvC scope cl C X.env) fp) (hX.blk c') takesF h4).run pins s σ H Q I q⟩
      · exact ⟨fun pins s σ H Q I q => let ⟨c', q⟩ := q; (sndE e (X := X.blk s' H' scope (compEnvC scope cl C X.env) fp) (hX.blk c') takesF h5).run pins s σ H Q I q⟩
      · obtain ⟨ev, Z, A, R, h⟩ := h
        simp only [evE] at h
        rw [ownP_snd]
        split at h
        · rename_i ds hs
          split at h
          · rename_i evs hw
            split at h
            · rename_i xs e2 hl
              split at h
              · rename_i he
                rw [hX.K]
                exact lco_turns ho R hs hw hl he h
              · exact h.elim
            · exact h.elim
          · exact h.elim
        · exact h.elim
  · rename_i own tg tup it cd e
    match gens, hm with
    | [], hm => exact absurd hm (by simp [mE])
    | _ :: _ :: _, hm => exact absurd hm (by simp [mE])
    | [⟨t, iter, ifs, z⟩], hm =>
      simp only [mE, Bool.and_eq_true, decide_eq_true_eq] at hm
      obtain ⟨⟨⟨⟨⟨⟨rfl, h1⟩, h2⟩, h3⟩, h4⟩, h5⟩, h6⟩ := hm
      have ho : ∀ i ∈ tg, i ∈ own := by simpa using h6
      have hi : ifs = [] := by
        cases cd <;> cases ifs <;> first | rfl | (simp at h4)
      subst hi
      refine ⟨fun pins s σ H Q I h => (ps_setLc (own := ownP N own) (g := gTg w.K tup tg) (tt := anyC w .no) (te := anyE w e) hX.calm hX.nd hi' hl hs (sndIt it hX tk h3) (blkOk_by (by rw [hX.N]; exact h1)) (fun s' H' C cl fp => ?_) (fun s' H' C cl fp => ?_) (fun s' H' C cl fp => ?_) (fold_of (mIt_noStar h3))).run pins s σ H Q I ?_⟩
      · rw [← hX.K]
        exact sndTg (X := X.blk s' H' scope (compEnvC scope cl C X.env) fp) (fb := blkFb scope) hX.N hX.nd hX.calm (fun _ z => z) h2
      · refine ⟨fun pins s σ H Q I q => pts_nil.run pins s σ H Q I ?_⟩
        obtain ⟨c', ev', Z', A', R', q⟩ := q
        exact q H Z' A' (Same.refl _) R'
      · exact ⟨fun pins s σ H Q I q => let ⟨c', q⟩ := q; (sndE e (X := X.blk s' H' scope (compEnvC scope cl C X.env) fp) (hX.blk c') takesF h5).run pins s σ H Q I q⟩
      · obtain ⟨ev, Z, A, R, h⟩ := h
        simp only [evE] at h
        rw [ownP_snd]
        refine ⟨ev, Z, A, R, h.bnd.imp fun ds e1 H1 Z1 A1 s1 R1 q J wk => ?_⟩
        split at q
        · rename_i evs hw
          split at q
          · rename_i xs e2 hl
            exact lc2_turns ho wk R1 hw hl q
          · exact q.elim
        · exact q.elim
end
section
variable {w : Wd} {σ : L2.St} {H Z : Hp} {ev e1 : Ev} {A : Nat → List Addr} {De : Ends}
theorem ret_fin {x : V} {r : RV} (R : RS w.K w.c σ H Z ev A) (q : RR w.K w.c σ H Z ev A x r) (h : OutS w Z (match retR ev r with
    | some (q, e2) => .ok (.rt q) e2
    | none => .bad) De) : De.rt x H := by
  cases r with
  | v d => exact h σ H Z A x (Same.refl _) R q
  | f o => exact h σ H Z A x (Same.refl _) R q
  | s j =>
    simp only [retR] at h
    have hx : σ[j]? = some (some x) := q
    cases hs : ev[j]? with
    | none => simp only [hs] at h; exact h.elim
    | some sv =>
      cases sv with
      | no => simp only [hs] at h; exact h.elim
      | io ds => simp only [hs] at h; exact h.elim
      | sh d =>
        simp only [hs] at h
        obtain ⟨_, v, g1, g2⟩ := R.sl j _ hs
        rw [hx] at g1
        cases g1
        exact h σ H Z A x (Same.refl _) R g2
      | ow o =>
        simp only [hs] at h
        obtain ⟨a, g1, g2⟩ := R.sl j _ hs
        rw [hx] at g1
        cases g1
        refine h _ H Z _ (.ref a) (Same.refl _) (R.setNo hs id) ⟨a, A j, rfl, g2, R.nod j, fun b hb => ⟨R.zo j b hb, R.young hs id hb, ?_, fun i hi => ?_⟩⟩
        · cases hf : w.c.F b with
          | none => rfl
          | some u => exact absurd hb ((R.pf b u hf).2.2 j)
        · by_cases e : i = j
          · subst e; rw [setA_same] at hi; cases hi
          · rw [setA_ne e] at hi
            exact e (R.dis i j b hi hb)
/-- statements, whatever is kept meanwhile; nothing is raised -/
def anySs (w : Wd) (b : Ss) : TS := fun De σ H => ∃ c, semSs (w.blk c) b De σ H
theorem OutS.noX {r : R Fl} (h : OutS w Z (Bide.noX r) De) : OutS (w.blk w.c) Z r De := by
  cases r with
  | ok a e => cases a <;> exact h
  | ex x e => exact h.elim
  | bad => exact h.elim
theorem OutS.lock {σ0 : L2.St} {H0 Z1 : Hp} {e0 : Ev} {A1 : Nat → List Addr} {d : Addr} {u u' : HO} (R1 : RS w.K w.c σ0 H0 Z1 e0 A1) (g : Z1 d = some u) (l : Lk u u') {r : R Fl} (h : OutS w Z1 (Bide.noX r) De) :
    OutS (w.blk (w.c.lk d u')) (chg Z1 d u') r ⟨fun σ' H' => H' d = some u' ∧ De.nx σ' (upd H' d u), fun v H' => H' d = some u' ∧ De.rt v (upd H' d u), fun σ' H' => H' d = some u' ∧ De.bk σ' (upd H' d u), fun σ' H' => H' d = some u' ∧ De.ct σ' (upd H' d u)⟩ := by
  cases r with
  | ex x e => exact h.elim
  | bad => exact h.elim
  | ok a e =>
    cases a with
    | nx =>
      intro σ H' Z' A' s R
      obtain ⟨k1, k2, k3, k4⟩ := unlk R1 g l s R
      exact ⟨k1, h _ _ _ A' k2 k3⟩
    | br =>
      intro σ H' Z' A' s R
      obtain ⟨k1, k2, k3, k4⟩ := unlk R1 g l s R
      exact ⟨k1, h _ _ _ A' k2 k3⟩
    | ct =>
      intro σ H' Z' A' s R
      obtain ⟨k1, k2, k3, k4⟩ := unlk R1 g l s R
      exact ⟨k1, h _ _ _ A' k2 k3⟩
    | rt q =>
      intro σ H' Z' A' x s R rr
      obtain ⟨k1, k2, k3, k4⟩ := unlk R1 g l s R
      exact ⟨k1, h _ _ _ A' x k2 k3 (k4 x q rr)⟩
theorem XSt.blk {k : Nat} {N : List Str} {xs : List String} {X : Cx} (h : XSt w k N xs X) (c : En) : XSt (w.blk c) k N xs X :=
  ⟨⟨h.x.K, h.x.N, h.x.calm, h.x.nd, h.x.room, h.x.fns, h.x.gls, h.x.blt, h.x.fn⟩, h.kind, h.pass, h.exs, h.stk, h.frm, h.xc⟩
/-- the turns of a for, nothing raised within -/
theorem for_turnsA {tg : List Nat} {tup : Bool} {f : Ss} {ds : List D} {J : L2.It} {c : En} (wk : WalkOk w.K J Z ds) (R : RS w.K c σ H Z ev A) (hl : OutS (w.blk c) Z (forL tg tup (evSs w.cf f) ds ev) De) :
    ∃ W : Nat → Nat → L2.St → Hp → Prop, (∃ m, W 0 m σ H) ∧ ∀ i m σ H, W i m σ H →
      (J.stop i H ∧ De.nx σ H) ∨ (J.go i H ∧ ∃ N : L2.St → Hp → Prop, (∀ σ' H', N σ' H' → ∃ m', m' < m ∧ W (i + 1) m' σ' H') ∧ ∀ x H', J.yld i H x H' → gTg w.K tup tg x σ H' fun σ2 H2 => anySs w f { De with nx := N, ct := N, bk := De.nx } σ2 H2) := by
  obtain ⟨hsz, G, Y, wlk, hG, hY⟩ := wk
  refine for_it wlk (fun i σ' H' => ∃ (ev' : Ev) (Z' : Hp) (A' : Nat → List Addr), Same Z Z' ∧ RS w.K c σ' H' Z' ev' A' ∧ OutS (w.blk c) Z' (forL tg tup (evSs w.cf f) (ds.drop i) ev') De)
    ⟨ev, Z, A, Same.refl _, R, hl⟩ (fun i σ' H' _ h => ?_) (fun i x σ' H' H'' hi h y => ?_) (fun σ' H' h => ?_)
  · obtain ⟨_, Z', _, s, R', _⟩ := h
    exact hG Z' H' s R'.sub
  · obtain ⟨ev', Z', A', s, R', hl'⟩ := h
    obtain ⟨Z2, d, hdi, g, rp⟩ := hY i H' x H'' Z' hi y s R'.sub
    have R2 := R'.ext g.zz g.sub g.zf g.hh
    have hdr : ds.drop i = d :: ds.drop (i + 1) := by
      have := List.getElem?_eq_some_iff.mp hdi
      rw [← this.2]
      exact List.drop_eq_getElem_cons this.1
    rw [hdr] at hl'
    simp only [forL] at hl'
    split at hl'
    · rename_i ev1 hb
      refine RS.bindTg R2 rp hb fun vs A1 R3 => ?_
      refine ⟨c, ev1, Z2, A1, R3, ?_⟩
      have hl2 := hl'.same g.zz
      have sa := s.trans g.zz
      show OutS (w.blk c) Z2 (evSs w.cf f ev1) _
      cases hf : evSs w.cf f ev1 with
      | bad => rw [hf] at hl2; exact hl2.elim
      | ex x e => rw [hf] at hl2; exact hl2
      | ok a e =>
        rw [hf] at hl2
        cases a with
        | nx => exact fun σ3 H3 Z3 A3 s3 R4 => ⟨e, Z3, A3, sa.trans s3, R4, OutS.same hl2 s3⟩
        | ct => exact fun σ3 H3 Z3 A3 s3 R4 => ⟨e, Z3, A3, sa.trans s3, R4, OutS.same hl2 s3⟩
        | br => exact hl2
        | rt q => exact hl2
    · exact hl'.elim
  · obtain ⟨ev', Z', A', s, R', hl'⟩ := h
    rw [List.drop_eq_nil_of_le (Nat.le_refl _)] at hl'
    exact hl' σ' H' Z' A' (Same.refl _) R'
/-- the turns of a for -/
theorem for_turns {tg : List Nat} {tup : Bool} {f : Ss} {ds : List D} {J : L2.It} (wk : WalkOk w.K J Z ds) (R : RS w.K w.c σ H Z ev A) (hl : OutS w Z (forL tg tup (evSs w.cf f) ds ev) De) :
    ∃ W : Nat → Nat → L2.St → Hp → Prop, (∃ m, W 0 m σ H) ∧ ∀ i m σ H, W i m σ H →
      (J.stop i H ∧ De.nx σ H) ∨ (J.go i H ∧ ∃ N : L2.St → Hp → Prop, (∀ σ' H', N σ' H' → ∃ m', m' < m ∧ W (i + 1) m' σ' H') ∧ ∀ x H', J.yld i H x H' → gTg w.K tup tg x σ H' fun σ2 H2 => semSs w f { De with nx := N, ct := N, bk := De.nx } σ2 H2) := by
  obtain ⟨hsz, G, Y, wlk, hG, hY⟩ := wk
  refine for_it wlk (fun i σ' H' => ∃ (ev' : Ev) (Z' : Hp) (A' : Nat → List Addr), Same Z Z' ∧ RS w.K w.c σ' H' Z' ev' A' ∧ OutS w Z' (forL tg tup (evSs w.cf f) (ds.drop i) ev') De)
    ⟨ev, Z, A, Same.refl _, R, hl⟩ (fun i σ' H' _ h => ?_) (fun i x σ' H' H'' hi h y => ?_) (fun σ' H' h => ?_)
  · obtain ⟨_, Z', _, s, R', _⟩ := h
    exact hG Z' H' s R'.sub
  · obtain ⟨ev', Z', A', s, R', hl'⟩ := h
    obtain ⟨Z2, d, hdi, g, rp⟩ := hY i H' x H'' Z' hi y s R'.sub
    have R2 := R'.ext g.zz g.sub g.zf g.hh
    have hdr : ds.drop i = d :: ds.drop (i + 1) := by
      have := List.getElem?_eq_some_iff.mp hdi
      rw [← this.2]
      exact List.drop_eq_getElem_cons this.1
    rw [hdr] at hl'
    simp only [forL] at hl'
    split at hl'
    · rename_i ev1 hb
      refine RS.bindTg R2 rp hb fun vs A1 R3 => ?_
      refine ⟨ev1, Z2, A1, R3, ?_⟩
      have hl2 := hl'.same g.zz
      have sa := s.trans g.zz
      cases hf : evSs w.cf f ev1 with
      | bad => rw [hf] at hl2; exact hl2.elim
      | ex x e => rw [hf] at hl2; exact hl2
      | ok a e =>
        rw [hf] at hl2
        cases a with
        | nx => exact fun σ3 H3 Z3 A3 s3 R4 => ⟨e, Z3, A3, sa.trans s3, R4, OutS.same hl2 s3⟩
        | ct => exact fun σ3 H3 Z3 A3 s3 R4 => ⟨e, Z3, A3, sa.trans s3, R4, OutS.same hl2 s3⟩
        | br => exact hl2
        | rt q => exact hl2
    · exact hl'.elim
  · obtain ⟨ev', Z', A', s, R', hl'⟩ := h
    rw [List.drop_eq_nil_of_le (Nat.le_refl _)] at hl'
    exact hl' σ' H' Z' A' (Same.refl _) R'
end
end Bide

set_option autoImplicit false
set_option Elab.async false
set_option maxRecDepth 100000
set_option linter.all false
set_option maxHeartbeats 4000000
/-! Two names, two values: a, b = x, y. -/
namespace Bide
open PySem L2

def parParts : Stmt → Option (Str × Str × Nat × Nat × Expr × Expr)
  | .Assign [.Tuple [.Name x px, .Name y py] _ _] (.Tuple [a, b] _ _) _ => some (x, y, px.line, py.line, a, b)
  | _ => none
theorem parParts_eq {st : Stmt} {x y : Str} {l m : Nat} {a b : Expr} (h : parParts st = some (x, y, l, m, a, b)) : ∃ px py kt pt k2 pt2 pos, st = .Assign [.Tuple [.Name x px, .Name y py] kt pt] (.Tuple [a, b] k2 pt2) pos ∧ px.line = l ∧ py.line = m := by
  unfold parParts at h
  split at h
  · cases h
    exact ⟨_, _, _, _, _, _, _, rfl, rfl, rfl⟩
  · cases h
def parB (N : List Str) (ren : String → String) (is : List Nat) (e : E) (sc : Scope) (st : Stmt) : Bool := match is, e with
  | [i, j], .tup (.cons ea (.cons eb .nil)) => match parParts st with
    | some (x, y, l, m, a, b) => decide (N[i]? = some x) && (decide (N[j]? = some y) && (decide (i ≠ j) && (decide (x ≠ y) && (decide (l = m) && (decide (sc.names.lookup x = some .local) && (decide (sc.names.lookup y = some .local) && (!(foldedForSure 8 a && foldedForSure 8 b) && (!(constantsAlone 8 a && constantsAlone 8 b) && (mE N ren ea sc a && mE N ren eb sc b)))))))))
    | none => false
  | _, _ => false
theorem noStar_b {a : Expr} (h : noStar a = true) : (match a with
    | .Starred .. => true
    | _ => false) = false := by cases a <;> first | rfl | (cases h; done)
theorem stores_par {x y : Str} {px py pt pt2 : Pos} {kt k2} {a b : Expr} {env : Env} (hk : env.scope.kind = .function) (hx : env.kindOf x = some .local) (hy : env.kindOf y = some .local) (hxy : x ≠ y) (hl : px.line = py.line) (na : noStar a = true) (nb : noStar b = true)
    (h1 : (foldedForSure 8 a && foldedForSure 8 b) = false) (h2 : (constantsAlone 8 a && constantsAlone 8 b) = false) : swappedStores [.Tuple [.Name x px, .Name y py] kt pt] (.Tuple [a, b] k2 pt2) env = pure (some [x, y]) := by
  have hb : env.blockKind = .function := by unfold Env.blockKind; rw [hk]; rfl
  have hne : (x == y) = false := by simpa using hxy
  have hne' : (y == x) = false := by simpa using Ne.symm hxy
  have a1 := noStar_b na
  have a2 := noStar_b nb
  unfold swappedStores
  simp only [hb]
  have e3 : ([a, b].all (foldedForSure 8)) = false := by simpa using h1
  have e4 : ([a, b].all (constantsAlone 8)) = false := by simpa using h2
  simp only [e3, e4]
  simp only [List.any_cons, List.any_nil, Bool.or_false]
  simp only [List.length_cons, List.length_nil, List.head?_cons, Option.map_some, Option.getD_some, Expr.pos]
  have e2 : ([x, y] : List Str).eraseDups = [x, y] := by simp [List.eraseDups_cons,Ne.symm hxy]
  rw [if_neg (by decide), if_neg (by
    intro h
    rw [Bool.or_eq_true] at h
    rcases h with h | h
    · cases a <;> first | (cases na; done) | (cases h)
    · cases b <;> first | (cases nb; done) | (cases h))]
  simp only [List.filterMap_cons, List.filterMap_nil, hx, hy, hl, beq_self_eq_true, Bool.and_self, if_true]
  rw [e2]
  rfl
theorem bindR {α β γ : Type} {x : R α} {f : α → Ev → R β} {g : β → Ev → R γ} : (x.bind f).bind g = x.bind fun a e => (f a e).bind g := by cases x <;> rfl
theorem kindOfL {env : Env} {n : Str} (hk : env.scope.kind = .function) (h : env.scope.names.lookup n = some .local) : env.kindOf n = some .local := by
  unfold Env.kindOf
  simp [h]
theorem par_ok {w : Wd} {k : Nat} {N : List Str} {xs : List String} {X : Cx} {is : List Nat} {e : E} {st : Stmt} (hS : XSt w k N xs X) (tk : Takes X w.W) (hm : parB N w.ren is e X.env.scope st = true) : PS X st (semS w (.unp is e)) := by
  unfold parB at hm
  split at hm
  · rename_i i j ea eb
    cases hp : parParts st with
    | none => rw [hp] at hm; cases hm
    | some q =>
      obtain ⟨x, y, l, m, a, b⟩ := q
      rw [hp] at hm
      obtain ⟨px, py, kt, pt, k2, pt2, pos, rfl, hpl, hpm⟩ := parParts_eq hp
      simp only [Bool.and_eq_true, decide_eq_true_eq, Bool.not_eq_true'] at hm
      obtain ⟨h1, h2, h3, h4, h5, h6, h7, h8, h9, h10, h11⟩ := hm
      have st1 := star_of (env := X.env) (es := []) (mE_noStar h11)
      have st2 := star_of (env := X.env) (es := [b]) (mE_noStar h10)
      have hw := stores_par (px := px) (py := py) (kt := kt) (pt := pt) (k2 := k2) (pt2 := pt2) hS.kind (kindOfL hS.kind h6) (kindOfL hS.kind h7) h4 (by rw [hpl, hpm]; exact h5) (mE_noStar h10) (mE_noStar h11) h8 h9
      have hem : mEs N w.ren (.cons ea (.cons eb .nil)) X.env.scope [a, b] = true := by simp [mEs,h10,h11]
      refine ⟨fun pins s σ H De I h => (ps_par hS.x.calm hS.x.nd (by rw [hS.x.N]; exact h1) (by rw [hS.x.N]; exact h2) h3 h6 h7 (sndEs (.cons ea (.cons eb .nil)) hS.x tk hem) hw sole_tup).run pins s σ H De I ?_⟩
      obtain ⟨ev, Z, A, R, h⟩ := h
      simp only [evS, evE] at h
      rw [bindR] at h
      refine semEs_mono (stmEsN R h) fun vs H1 ⟨rs, e1, Z1, A1, s1, R1, q1, hn1, h1⟩ => ?_
      cases hd : escs e1 rs with
      | none => rw [hd] at h1; exact h1.elim
      | some q =>
        obtain ⟨ds, e2⟩ := q
        rw [hd] at h1
        dsimp only at h1
        obtain ⟨Z2, A2, s2, R2, rp⟩ := R1.escs q1 hd
        split at h1
        · simp only [Bide.R.bind, esc] at h1
          cases he : setVs e2 [i, j] ds with
          | none => rw [he] at h1; exact h1.elim
          | some e3 =>
            rw [he] at h1
            obtain ⟨A3, R3, hlen⟩ := R2.setVs rp he
            have hl2 : vs.length = 2 := hlen.symm
            obtain ⟨v, u, rfl⟩ : ∃ v u, vs = [v, u] := by
              match vs, hl2 with
              | [v, u], _ => exact ⟨v, u, rfl⟩
            exact ⟨v, u, rfl, h1 _ H1 Z2 A3 s2 R3⟩
        · exact h1.elim
  · cases hm
end Bide

set_option autoImplicit false
set_option maxHeartbeats 1000000
/-! try with several clauses, each with a name. -/
namespace Bide
open PySem L2 PySem.Spec PyProof.Rows
/-- a clause: its class, its name's slot, its suite -/
abbrev Cls := Value × Nat × (Addr → Value → Option Addr → TS)
/-- behind a suite its name is gone -/
def gone (k : Nat) (De : Ends) : Ends :=
  ⟨fun τ G => De.nx (τ.set k none) G, De.rt, fun τ G => De.bk (τ.set k none) G, fun τ G => De.ct (τ.set k none) G⟩
/-- the first clause that takes an exception -/
def takes (K : PySem.W.Frag) (out : WX) (De : Ends) : List Cls → WX
  | [] => out
  | q :: more => fun kl dd τ G => ∃ yes, PySem.W.exmOne K kl q.1 = some yes ∧
      (yes = true → ∀ x, G x = none → q.2.2 x kl dd (gone q.2.1 De) (τ.set q.2.1 (some (V.ref x))) G) ∧ (yes = false → takes K out De more kl dd τ G)
inductive Clauses (X : Cx) : List ExceptHandler → List Cls → Prop
  | nil : Clauses X [] []
  | cons {w nm : Str} {kl : Value} {k : Nat} {tt : Addr → Value → Option Addr → TS} {st : Stmt} {sts : List Stmt} {p q : Pos} {more : List ExceptHandler} {qs : List Cls}
      (named : Names X w kl) (slot : X.N[k]? = some nm) (loc : X.env.kindOf nm = some .local)
      (suite : ∀ (x : Addr) (ob : Obj) (kv : Value) (dd : Option Addr) (pn : List (Addr × Obj)), Zc kv dd ob → (∃ fs, ob.data = .fields fs) →
        PSs (X.suite x ((x, ob) :: pn)) (st :: sts) (tt x kv dd))
      (rest : Clauses X more qs) : Clauses X (.ExceptHandler (some (.Name w p)) (some nm) (st :: sts) q :: more) ((kl, k, tt) :: qs)

section
variable {X : Cx} {body : List Stmt} {e0 : ExceptHandler} {es : List ExceptHandler} {qs : List Cls} {pp : Pos} {tb : WX → TS} {out : WX}
/-- what the clauses make of an exception that comes to them -/
def caught (X : Cx) (pins : List (Addr × Obj)) (De : Ends) (hs : List ExceptHandler) (u : Value) (y : Shared) : Prop :=
  wpAny (model X.prog X.w) X.A (noteFrame u X.env)
    (fun _ y2 => wpAny (model X.prog X.w) X.A (setFlight u none)
      (fun _ y3 => wpAny (model X.prog X.w) X.A (handleBy u X.env hs) (SP X pins De) X.xe y3) X.xe y2) X.xe y
/-- the name goes behind a suite -/
theorem endsIn {x : Addr} {pn : List (Addr × Obj)} {k : Nat} {nm : Str} {q : Pos} {pins : List (Addr × Obj)} {De : Ends}
    (back : ∀ {τ : L2.St} {G : Hp} {z : Shared}, Inv (X.suite x pn) [] τ G z → Inv X pins τ G z)
    (nd : X.N.Nodup) (slot : X.N[k]? = some nm) (loc : X.env.kindOf nm = some .local)
    {fl : Flow} {z : Shared} (hz : SP (X.suite x pn) [] (gone k De) fl z) :
    wpAny (model X.prog X.w) X.A (do bindName X.env nm .none; unbindBehindTheSuite X.env nm q) (fun _ z' => SP X pins De fl z') X.xe z := by
  cases fl with
  | next => obtain ⟨τ, G, inv, r⟩ := hz
            exact gone_ok (back inv) nd slot loc fun _ inv' => ⟨_, _, inv', r⟩
  | brk => obtain ⟨τ, G, inv, r⟩ := hz
           exact gone_ok (back inv) nd slot loc fun _ inv' => ⟨_, _, inv', r⟩
  | cont => obtain ⟨τ, G, inv, r⟩ := hz
            exact gone_ok (back inv) nd slot loc fun _ inv' => ⟨_, _, inv', r⟩
  | ret u => obtain ⟨v, τ, G, inv, rel, r⟩ := hz
             exact gone_ok (back inv) nd slot loc fun _ inv' => ⟨_, _, _, inv', rel, r⟩
theorem ps_tries (stk : X.stack = X.env :: X.outer) (frm : X.env.frame = some X.env.locals) (nd : X.N.Nodup) (tk : Takes X out)
    (hb : ∀ (W : WX) (pn : List (Addr × Obj)) (xe : Value → Shared → Prop), Takes (X.tr pn xe) W → PassesOwn (model X.prog X.w) X.A X.env xe → PSs (X.tr pn xe) body (tb W))
    (cl : Clauses X (e0 :: es) qs) : PS X (.Try body (e0 :: es) [] [] pp) (fun De τ G => tb (takes X.K out De qs) De τ G) := by
  constructor
  intro pins z τ G De inv hy
  have ok := inv.ok
  have fs : X.A.frames = some (X.env :: X.outer) := ok.frames.trans (congrArg some stk)
  apply wpAny_Try_except
  refine wpAny_mono ((hb (takes X.K out De qs) (X.pn ++ pins) (caught X pins De (e0 :: es)) ?_ PassesOwn.looking).run [] z τ G De (inv.toTry _) hy) ?_ (fun _ _ y => y)
  · intro u y cu
    obtain ⟨x, B, yI, pins2, τ2, G2, kl, dd, rfl, invT, nb, up, sky, free, os, ag, hw⟩ := cu
    have inv2 : Inv X pins τ2 G2 yI := invT.ofTry ok
    rw [show (X.tr (X.pn ++ pins) (caught X pins De (e0 :: es))).stack = X.env :: X.outer from stk] at sky
    refine Sky.land Zc.steady fs frm sky fun h1 fly up1 => ?_
    obtain ⟨ob, fv, at1, zc1, fd1⟩ := fly.there
    have inv3 : Inv X pins τ2 G2 { y with heap := h1 } :=
      inv2.landed nb fly.1 (up.trans up1) os ag
    have off : ∀ {hh : Heap} {o : Obj} {ws : Array Value}, hh.FunFrames B (X.env :: X.outer) → hh.get? x = some o → o.data = .fields ws → x ∉ frs (X.env :: X.outer) := by
      intro hh o ws ff g fd hm
      obtain ⟨_, o2, g2, nf⟩ := ff.mem hm
      cases g.symm.trans g2
      exact nf _ fd
    have off1 := off fly.2.2.1 at1 fd1
    have offL : x ≠ X.env.locals := by
      rintro rfl
      exact off1 (List.mem_filterMap.mpr ⟨X.env, List.mem_cons_self, frm⟩)
    have offF : x ∉ X.fs := by
      intro hm
      obtain ⟨en, hen, hq⟩ := List.mem_filterMap.mp hm
      exact off1 (List.mem_filterMap.mpr ⟨en, List.mem_cons_of_mem _ hen, hq⟩)
    have invS := inv3.suite at1 fd1 free offL offF
    have walk : ∀ {hs : List ExceptHandler} {ls : List Cls}, Clauses X hs ls → takes X.K out De ls kl dd τ2 G2 →
        wpAny (model X.prog X.w) X.A (handleBy (.ref x) X.env hs) (SP X pins De) X.xe { y with heap := h1 } := by
      intro hs ls hc
      induction hc with
      | nil =>
        intro hw
        apply wpAny_handleBy_nil
        have ⟨_, _, _, ob2, fv2, tb2, _, _, g2, _, fd2, tr2, _⟩ := fly
        unfold PySem.passOn
        apply wpAny_bind
        apply wpAny_field g2 fd2 tr2
        have some_tb : ¬ ((Value.ref tb2 == Value.none) = true) := by simp
        rw [if_neg some_tb]
        have on : wpAny (model X.prog X.w) X.A (setFlight (.ref x) X.env.frame)
            (fun _ y4 => wpAny (model X.prog X.w) X.A (throw (.ref x) : Sem Flow) (SP X pins De) X.xe y4) X.xe { y with heap := h1 } := by
          rw [frm]
          refine HandSPX.setFlight_upZ fly fun h2 held up2 => ?_
          apply wpAny_throw
          apply tk
          exact ⟨x, B, yI, pins, τ2, G2, kl, dd, rfl, inv2, nb, (up.trans up1).trans up2,
            .inr (.inr (by rw [stk]; exact held)), free, os, ag, hw⟩
        first
          | exact wpAny_bind on
          | exact wpAny_bind (wpAny_pure (wpAny_bind on))
      | cons named slot loc suite rest ih =>
        intro hw
        rename_i w nm kc k tt st sts p q more ls
        obtain ⟨yes, ey, hyes, hno⟩ := hw
        refine wpAny_handleBy_cons (codeAny_handlers_test ?_) nofun
        have ty : PySem.W.Looks (model X.prog X.w) h1 (typeOf (.ref x)) kl := by
          intro A2 Q2 E2 y2 keep hq
          exact wpAny_typeOf_ref (keep _ _ at1) (zc1.1 ▸ hq)
        have mt := PySem.W.exm_one (M := model X.prog X.w) inv3.kIn ty ey
        have name : ∀ {Q2 E2 : Value → Shared → Prop}, Q2 kc { y with heap := h1 } →
            wpAny (model X.prog X.w) (X.A.mark (some (.ref x))) (eval (.Name w p) X.env) Q2 E2 { y with heap := h1 } := by
          intro Q2 E2 hq
          obtain ⟨gl, nd2, glob | ⟨noG, boot, nn⟩⟩ := named
          · exact ld_glob (X := X.suite x ((x, ob) :: (X.pn ++ pins))) invS gl glob hq nd2
          · exact ld_blt (X := X.suite x ((x, ob) :: (X.pn ++ pins))) invS gl noG boot hq nn nd2
        apply name
        apply mt.here
        cases yes with
        | false => exact ih (hno rfl)
        | true =>
          apply codeAny_handlers_suite_as
          refine HandSPX.lands_againZ fly fun h2 fly2 up2 => ?_
          obtain ⟨ob2, fv2, at2, zc2, fd2⟩ := fly2.there
          have inv4 : Inv X pins τ2 G2 { y with heap := h2 } :=
            inv2.landed nb fly2.1 ((up.trans up1).trans up2) os ag
          have invT2 := inv4.suite at2 fd2 free offL offF
          refine store_ok (X := X.suite x ((x, ob2) :: (X.pn ++ pins))) (v := V.ref x) invT2 nd slot (.inl loc) rfl (fun y5 inv5 => ?_) (.inr loc)
          have runs := (suite x ob2 kl dd (X.pn ++ pins) zc2 ⟨_, fd2⟩).run [] y5 _ G2 _ inv5 (hyes rfl x free)
          refine wpAny_mono runs (fun fl y6 hz => ?_) (fun _ _ no => no.elim)
          exact endsIn (fun i => i.unsuite ok) nd slot loc hz
    exact walk cl hw
  · intro fl y hy
    cases fl with
    | next => obtain ⟨τ2, G2, inv2, r⟩ := hy
              exact wpAny_execs_nil ⟨τ2, G2, inv2.ofTry ok, r⟩
    | brk => obtain ⟨τ2, G2, inv2, r⟩ := hy
             exact ⟨τ2, G2, inv2.ofTry ok, r⟩
    | cont => obtain ⟨τ2, G2, inv2, r⟩ := hy
              exact ⟨τ2, G2, inv2.ofTry ok, r⟩
    | ret v => obtain ⟨w, τ2, G2, inv2, rel, r⟩ := hy
               exact ⟨w, τ2, G2, inv2.ofTry ok, rel, r⟩
end
end Bide

set_option autoImplicit false
set_option Elab.async false
set_option maxRecDepth 100000
set_option linter.all false
set_option maxHeartbeats 4000000
/-! The soundness of statements. -/
namespace Bide
open PySem L2
section
variable {w : Wd} {k : Nat} {N : List Str} {xs : List String} {X : Cx}
/-- rows[..] = .. -/
theorem sti_ok {i : Nat} {a v : E} {x : Str} {py1 py2 : Expr} {xp p pos : Pos} (hS : XSt w k N xs X) (tk : Takes X w.W) (h1 : rdSlot N X.env.scope i x = true) (h2 : mE N w.ren a X.env.scope py1 = true) (h3 : mE N w.ren v X.env.scope py2 = true) :
    PS X (.Assign [.Subscript (.Name x xp) py1 p] py2 pos) (semS w (.sti i a v)) := by
  refine ⟨fun pins s σ H De I h => (ps_asg (sndE v hS.x tk h3) (pg_sub (rd_slot hS.x.N h1) (sndE a hS.x tk h2) set_list (assign_sub (mE_noStar h2))) sole_sub stores_sub rfl).run pins s σ H De I ?_⟩
  obtain ⟨ev, Z, A, R, h⟩ := h
  simp only [evS] at h
  refine semE_mono (stm1 R h) fun y H1 ⟨r, e1, Z1, A1, s1, R1, q1, h1⟩ => ?_
  split at h1
  · rename_i d e2 hd
    obtain ⟨Z2, A2, s2, R2, rp⟩ := R1.esc q1 hd
    have h1 := h1.same s2
    split at h1
    · rename_i xs0 h0
      obtain ⟨a0, _, ea, _⟩ := spot R2 h0
      refine ⟨.ref a0, ea, semE_mono (stm1 R2 h1) fun z H2 ⟨q, e3, Z3, A3, s3, R3, q3, h3⟩ => ?_⟩
      split at h3
      · rename_i j xs hj hx
        obtain ⟨a1, ys, ea', e2', g1, g2, g3, g4⟩ := spot R3 hx
        rw [ea] at ea'
        cases ea'
        cases (R3.rdv q3 hj).int
        split at h3
        · rename_i zs hz
          obtain ⟨n, hn, hlt, rfl⟩ := setAt_ix hz
          rw [← g3.length] at hn
          refine ⟨a0, ys, j, n, rfl, rfl, g1, hn, ?_⟩
          have R4 := g4 (upd H2 a0 (.lst (ys.set n y))) _ (xs.set n d) (fun b hb => upd_ne hb) upd_same (by rw [List.length_set]; exact g2) (g3.set n (rp.mono s3))
          exact h3 σ _ Z3 A3 (Same.refl _) R4
        · exact h3.elim
      · exact h3.elim
    · exact h1.elim
  · exact h1.elim
theorem slot_rd {σ : L2.St} {H Z : Hp} {ev : Ev} {A : Nat → List Addr} {j : Nat} {d : D} (R : RS w.K w.c σ H Z ev A) (hj : rd ev (.s j) = some d) : ∃ x, σ[j]? = some (some x) ∧ RdV w.K Z H x d := by
  cases hsj : ev[j]? with
  | none => simp only [rd, hsj] at hj; cases hj
  | some sv =>
    have q := R.sl j sv hsj
    have hx : ∃ x, σ[j]? = some (some x) := by
      cases sv with
      | no => simp only [rd, hsj] at hj; cases hj
      | sh d => obtain ⟨_, v, q, _⟩ := q; exact ⟨v, q⟩
      | ow o => obtain ⟨a, q, _⟩ := q; exact ⟨_, q⟩
      | io ds => obtain ⟨a, q, _⟩ := q; exact ⟨_, q⟩
    obtain ⟨x, hx⟩ := hx
    exact ⟨x, hx, R.rdv (r := .s j) hx hj⟩
/-- rows[..][..] = .. -/
theorem st2_ok {i j : Nat} {a v : E} {x y : Str} {py1 py2 : Expr} {xp yp p1 p pos : Pos} (hS : XSt w k N xs X) (tk : Takes X w.W) (h1 : rdSlot N X.env.scope i x = true) (h2 : mE N w.ren a X.env.scope py1 = true) (hy : rdSlot N X.env.scope j y = true) (h3 : mE N w.ren v X.env.scope py2 = true) :
    PS X (.Assign [.Subscript (.Subscript (.Name x xp) py1 p1) (.Name y yp) p] py2 pos) (semS w (.st2 i a j v)) := by
  refine ⟨fun pins s σ H De I h => (ps_asg (sndE v hS.x tk h3) (pg_sub (pe_ix ix_list (rd_slot hS.x.N h1) (sndE a hS.x tk h2) (sub_of (mE_noStar h2))) (rd_slot hS.x.N hy) set_list (assign_sub rfl)) sole_sub stores_sub rfl).run pins s σ H De I ?_⟩
  obtain ⟨ev, Z, A, R, h⟩ := h
  simp only [evS] at h
  refine semE_mono (stm1 R h) fun val H1 ⟨r, e1, Z1, A1, s1, R1, q1, h1⟩ => ?_
  split at h1
  · rename_i d e2 hd
    obtain ⟨Z2, A2, s2, R2, rp⟩ := R1.esc q1 hd
    have h1 := h1.same s2
    split at h1
    · rename_i xs0 h0
      obtain ⟨_, a0, _, ea, _⟩ := ll_spot R2 h0
      refine ⟨.ref a0, ea, semE_mono (stm1 R2 h1) fun z H2 ⟨q, e3, Z3, A3, s3, R3, q3, h3⟩ => ?_⟩
      split at h3
      · rename_i m xss n hm hl hn
        obtain ⟨hs, a1, bs, ea', eA, g1, g2, g3, g4⟩ := ll_spot R3 hl
        rw [ea] at ea'
        cases ea'
        cases (R3.rdv q3 hm).int
        split at h3
        · rename_i ys hx
          obtain ⟨kk, b, vs, w0, w1, w1', w2, w3, w4, w5⟩ := ll_at g3 g4 hx
          split at h3
          · rename_i zs hz
            obtain ⟨n', hn', hlt, rfl⟩ := setAt_ix hz
            split at h3
            · rename_i yss hy
              obtain ⟨m', hm', hlt', rfl⟩ := setAt_ix hy
              rw [w0] at hm'
              cases hm'
              obtain ⟨x, hx, rx⟩ := slot_rd R3 hn
              cases rx.int
              rw [← w5.length] at hn'
              refine ⟨a0, _, _, _, rfl, rfl, .inl (.inl g1), w2, _, hx, b, vs, n, n', rfl, rfl, w3, hn', ?_⟩
              have nd := R3.nod i
              rw [eA] at nd
              have nd' := List.nodup_cons.mp nd
              have hb : b ∈ bs := List.mem_of_getElem? w1
              have hab : a0 ≠ b := fun e => nd'.1 (by rw [e]; exact hb)
              have R4 := R3.change (sw := .ow (.ll (xss.set kk (ys.set n' d)))) (H' := upd H2 b (.lst (vs.set n' val))) hs (.inl ⟨id, id⟩) (fun c hc => upd_ne fun e => hc (by rw [eA, e]; simp [hb]))
                ⟨a0, ea, by
                  refine ⟨bs, eA, ?_, g2, by rw [List.length_set]; exact g3, fun t c ds e1 e2 => ?_⟩
                  · rw [upd_ne hab]; exact g1
                  · by_cases ht : t = kk
                    · subst ht
                      rw [w1] at e1
                      cases e1
                      rw [List.getElem?_set_self hlt'] at e2
                      cases e2
                      exact ⟨_, upd_same, by rw [List.length_set]; exact w4, w5.set n' (rp.mono s3)⟩
                    · rw [List.getElem?_set_ne (Ne.symm ht)] at e2
                      obtain ⟨us, u1, u2, u3⟩ := g4 t c ds e1 e2
                      refine ⟨us, ?_, u2, u3⟩
                      rw [upd_ne ?_]
                      · exact u1
                      · intro e
                        subst e
                        have l1 := (List.getElem?_eq_some_iff.mp e1)
                        have l2 := (List.getElem?_eq_some_iff.mp w1)
                        exact ht ((List.getElem?_inj l1.1 nd'.2).mp (e1.trans w1.symm))⟩
              exact h3 σ _ Z3 A3 (Same.refl _) R4
            · exact h3.elim
          · exact h3.elim
        · exact h3.elim
      · exact h3.elim
    · exact h1.elim
  · exact h1.elim
/-- d[..] = .. -/
theorem std_ok {i : Nat} {a v : E} {x : Str} {py1 py2 : Expr} {xp p pos : Pos} (hS : XSt w k N xs X) (tk : Takes X w.W) (h1 : rdSlot N X.env.scope i x = true) (h2 : mE N w.ren a X.env.scope py1 = true) (h3 : mE N w.ren v X.env.scope py2 = true) :
    PS X (.Assign [.Subscript (.Name x xp) py1 p] py2 pos) (semS w (.std i a v)) := by
  refine ⟨fun pins s σ H De I h => (ps_dput (by have := hS.x.units; omega) (rd_slot hS.x.N h1) (sndE a hS.x tk h2) (sndE v hS.x tk h3) swap_sub).run pins s σ H De I ?_⟩
  obtain ⟨ev, Z, A, R, h⟩ := h
  simp only [evS] at h
  refine semE_mono (stm1 R h) fun y H1 ⟨r, e1, Z1, A1, s1, R1, q1, h1⟩ => ?_
  split at h1
  · rename_i d e2 hd
    obtain ⟨Z2, A2, s2, R2, rp⟩ := R1.esc q1 hd
    have h1 := h1.same s2
    split at h1
    · rename_i o0 h0
      obtain ⟨a0, ea, _⟩ := R2.sl i _ h0
      refine ⟨.ref a0, ea, semE_mono (stm1 R2 h1) fun z H2 ⟨q, e3, Z3, A3, s3, R3, q3, h3⟩ => ?_⟩
      split at h3
      · rename_i kd e4 hk
        obtain ⟨Z4, A4, s4, R4, rk⟩ := R3.esc q3 hk
        split at h3
        · rename_i t kvs hs
          split at h3
          · rename_i hok
            obtain ⟨a1, ea', oc⟩ := R4.sl i _ hs
            rw [ea] at ea'
            cases ea'
            have rp' := rp.mono (s3.trans s4)
            have hin : ∀ b, b ∉ A4 i → b ≠ a0 := fun b hb e => hb (by rw [e]; exact oc.mem)
            obtain ⟨eA, H8, pu, keep, oc8⟩ := oc.putd R4.sub rk rp' hok.1 (by rw [← line_eq]; exact hok.2)
            exact ⟨a0, H8, rfl, pu, h3 σ _ Z4 A4 s4 (R4.change (sw := .ow (.d t (putKV kvs kd d))) hs (.inl ⟨id, id⟩) (fun b hb => keep b (hin b hb)) ⟨a0, ea, by rw [eA] at oc8 ⊢; exact oc8⟩)⟩
          · exact h3.elim
        · exact h3.elim
      · exact h3.elim
    · exact h1.elim
  · exact h1.elim
end
def trParts : Stmt → Option (Str × Str × Expr × List Stmt)
  | .Try body [.ExceptHandler (some (.Name y _)) (some n) [.Return (some py) _] _] [] [] _ => some (y, n, py, body)
  | _ => none
theorem trParts_eq {st : Stmt} {y n : Str} {py : Expr} {body : List Stmt} (h : trParts st = some (y, n, py, body)) : ∃ np rp hp pos, st = .Try body [.ExceptHandler (some (.Name y np)) (some n) [.Return (some py) rp] hp] [] [] pos := by
  unfold trParts at h
  split at h
  · cases h
    exact ⟨_, _, _, _, rfl⟩
  · cases h
def mHx (xf : String → List String) (x : String) (n : Str) : Hx → Expr → Bool
  | .fld j f, .Attribute (.Name y _) a _ => decide (y = n) && isN a f && decide ((xf x)[j]? = some f)
  | .lst s j f, .List [.Constant (.str z) _ _, .Attribute (.Name y _) a _] _ => decide (z = Str.ofString s) && decide (y = n) && isN a f && decide ((xf x)[j]? = some f)
  | .tup s j f, .Tuple [.Constant (.str z) _ _, .Attribute (.Name y _) a _] _ _ => decide (z = Str.ofString s) && decide (y = n) && isN a f && decide ((xf x)[j]? = some f)
  | _, _ => false
/-- a clause that returns at once -/
def hdP : Hd → Option (String × Nat × Hx)
  | ⟨c, some i, [], .one (.fld j f)⟩ => some (c, i, .fld j f)
  | ⟨c, some i, [], .lst [.str s, .fld j f]⟩ => some (c, i, .lst s j f)
  | ⟨c, some i, [], .tup [.str s, .fld j f]⟩ => some (c, i, .tup s j f)
  | _ => none
def ehP : ExceptHandler → Option (Str × Str × Expr)
  | .ExceptHandler (some (.Name y _)) (some n) [.Return (some py) _] _ => some (y, n, py)
  | _ => none
theorem ehP_eq {eh : ExceptHandler} {y n : Str} {py : Expr} (h : ehP eh = some (y, n, py)) : ∃ np rp hp, eh = .ExceptHandler (some (.Name y np)) (some n) [.Return (some py) rp] hp := by
  unfold ehP at h
  split at h
  · cases h
    exact ⟨_, _, _, rfl⟩
  · cases h
def mHd (N : List Str) (xf : String → List String) (sc : Scope) (h : Hd) (eh : ExceptHandler) : Bool := match hdP h, ehP eh with
  | some (x, i, hx), some (y, n, py) => isN y x && glb sc y && okName y && decide (N[i]? = some n) && vis sc n && okName n && decide (sc.names.lookup n = some .local) && mHx xf x n hx py && (decide (x ≠ "ValueError") && decide (x ≠ "BideError"))
  | _, _ => false
def mHds (N : List Str) (xf : String → List String) (sc : Scope) : List Hd → List ExceptHandler → Bool
  | [], [] => true
  | h :: hs, e :: es => mHd N xf sc h e && mHds N xf sc hs es
  | _, _ => false
mutual
def mS (N : List Str) (ren : String → String) (xs : List String) (xf : String → List String) : S → Scope → Stmt → Bool
  | .asg i e, sc, st => match st with
    | .Assign [.Name x _] py _ => wrSlot N sc fT i x && mE N ren e sc py
    | _ => false
  | .unp is e, sc, st => parB N ren is e sc st || (match st with
    | .Assign [.Tuple es _ _] py _ => mTgs N sc fT is es && mE N ren e sc py && (notTup py || cellT sc es)
    | _ => false)
  | .unl is e, sc, st => match st with
    | .Assign [.Tuple es _ _] py _ => mTgs N sc fT is es && mE N ren e sc py && notTup py
    | _ => false
  | .sti i a v, sc, st => match st with
    | .Assign [.Subscript (.Name x _) py1 _] py2 _ => rdSlot N sc i x && mE N ren a sc py1 && mE N ren v sc py2
    | _ => false
  | .st2 i a j v, sc, st => match st with
    | .Assign [.Subscript (.Subscript (.Name x _) py1 _) (.Name y _) _] py2 _ => rdSlot N sc i x && mE N ren a sc py1 && rdSlot N sc j y && mE N ren v sc py2
    | _ => false
  | .std i a v, sc, st => match st with
    | .Assign [.Subscript (.Name x _) py1 _] py2 _ => rdSlot N sc i x && mE N ren a sc py1 && mE N ren v sc py2
    | _ => false
  | .xpr e, sc, st => match st with
    | .Expr py _ => mE N ren e sc py && notLc py
    | _ => false
  | .ife t a b, sc, st => match st with
    | .If c p q _ => mT N ren t sc c && mSs N ren xs xf a sc p && mSs N ren xs xf b sc q
    | _ => false
  | .forr tg tup it b, sc, st => match st with
    | .For t iter body [] _ => mTg N sc fT tup tg t && mIt N ren it sc t iter && mSs N ren xs xf b sc body
    | _ => false
  | .fork tg tup i b, sc, st => match st with
    | .For t (.Name x _) body [] _ => mTg N sc fT tup tg t && rdSlot N sc i x && mSs N ren xs xf b sc body
    | _ => false
  | .whl _ t b, sc, st => match st with
    | .While c body [] _ => mT N ren t sc c && mSs N ren xs xf b sc body
    | _ => false
  | .ret e, sc, st => match st with
    | .Return (some py) _ => mE N ren e sc py
    | _ => false
  | .retN, _, st => match st with
    | .Return none _ => true
    | _ => false
  | .rse n es, sc, st => match st with
    | .Raise (some (.Call (.Name x _) (y :: ys) [] _)) none _ => isN x n && decide (n ∈ xs) && glb sc x && decide (ys.length + 1 = (xf n).length) && mEs N ren es sc (y :: ys)
    | _ => false
  | .trx b x i h, sc, st => match trParts st with
    | some (y, n, py, body) => isN y x && glb sc y && okName y && decide (N[i]? = some n) && vis sc n && okName n && decide (sc.names.lookup n = some .local) && mHx xf x n h py && mSs N ren [] xf b sc body
    | none => false
  | .trm b hs, sc, st => match st with
    | .Try body (h0 :: hds) [] [] _ => mHds N xf sc hs (h0 :: hds) && mSs N ren [] xf b sc body
    | _ => false
  | .unn is js e, _, _ => false
  | .sw2 i a b v u, _, _ => false
  | .pass, _, st => match st with
    | .Pass _ => true
    | .Expr (.Constant (.str _) _ _) _ => true
    | _ => false
  | .brk, _, st => match st with
    | .Break _ => true
    | _ => false
  | .cont, _, st => match st with
    | .Continue _ => true
    | _ => false
  | .nev, _, _ => true
def mSs (N : List Str) (ren : String → String) (xs : List String) (xf : String → List String) : Ss → Scope → List Stmt → Bool
  | .nil, _, st => match st with
    | [] => true
    | _ => false
  | .cons a b, sc, st => match st with
    | x :: r => mS N ren xs xf a sc x && mSs N ren xs xf b sc r
    | _ => false
end
def trTs (h : Hx) (i : Nat) (C : Addr) (a : Addr) (cls : Value) (d : Option Addr) : TS := match h with
  | .fld _ f => tRet (tXf a cls d C (sN f) (tVar i))
  | .lst s _ f => tRet (tLst (tCons (tC (.str (Str.ofString s))) (tCons (tXf a cls d C (sN f) (tVar i)) tNil)))
  | .tup s _ f => tRet (tTup (tCons (tC (.str (Str.ofString s))) (tCons (tXf a cls d C (sN f) (tVar i)) tNil)))
def Hx.f : Hx → String
  | .fld _ f => f
  | .lst _ _ f => f
  | .tup _ _ f => f
def Hx.j : Hx → Nat
  | .fld j _ => j
  | .lst _ j _ => j
  | .tup _ j _ => j
theorem mHx_has {K : PySem.W.Frag} {mg : Str → Option Value} {ca : String → Option Addr} {xf : String → List String} {x : String} {n : Str} {h : Hx} {py : Expr} (hx : XcOk K mg ca xf) (hm : mHx xf x n h py = true) : ∃ C, ca x = some C ∧ (xf x)[h.j]? = some h.f ∧ h.f ∈ xf x := by
  have key : (xf x)[h.j]? = some h.f := by
    cases h with
    | fld j f =>
      cases py <;> first | (exfalso; revert hm; simp [mHx]; done) | skip
      rename_i e a p
      cases e <;> first | (exfalso; revert hm; simp [mHx]; done) | skip
      simp only [mHx, Bool.and_eq_true, decide_eq_true_eq] at hm
      exact hm.2
    | lst s j f =>
      cases py <;> first | (exfalso; revert hm; simp [mHx]; done) | skip
      rename_i es p
      match es, hm with
      | [.Constant (.str z) _ _, .Attribute (.Name y _) a _], hm =>
        simp only [mHx, Bool.and_eq_true, decide_eq_true_eq] at hm
        exact hm.2
    | tup s j f =>
      cases py <;> first | (exfalso; revert hm; simp [mHx]; done) | skip
      rename_i es kx p
      match es, hm with
      | [.Constant (.str z) _ _, .Attribute (.Name y _) a _], hm =>
        simp only [mHx, Bool.and_eq_true, decide_eq_true_eq] at hm
        exact hm.2
  obtain ⟨C, hC⟩ := hx.has x (fun q => by rw [q] at key; cases key)
  exact ⟨C, hC, key, List.mem_of_getElem? key⟩
theorem trSuite {X : Cx} {N : List Str} {xf : String → List String} {x : String} {n : Str} {h : Hx} {i : Nat} {C a : Addr} {oe : Obj} {cls : Value} {d : Option Addr} {pn : List (Addr × Obj)} {py : Expr} {rp : Pos} (hN : X.N = N) (h4 : N[i]? = some n) (h5 : vis X.env.scope n = true) (h6 : okName n = true) (T : XfC X.K C) (hno : ∀ f ∈ xf x, PySem.W.findIn X.K (.ref C) (sN f) = some none)
    (hz : Zc cls d oe) (hf : ∃ vs, oe.data = .fields vs) (hm : mHx xf x n h py = true) : PSs (X.suite a ((a, oe) :: pn)) [.Return (some py) rp] (trTs h i C a cls d) := by
  have rd : ∀ pos : Pos, PE (X.suite a ((a, oe) :: pn)) (.Name n pos) (tVar i) := fun pos => rd_slot (X := X.suite a ((a, oe) :: pn)) hN (by unfold rdSlot; simp [h4,h5,h6])
  cases h with
  | fld j f =>
    cases py <;> first | (exfalso; revert hm; simp [mHx]; done) | skip
    rename_i e at_ p
    cases e <;> first | (exfalso; revert hm; simp [mHx]; done) | skip
    simp only [mHx, Bool.and_eq_true, decide_eq_true_eq] at hm
    obtain ⟨⟨rfl, e2⟩, e3⟩ := hm
    cases isN_eq e2
    refine ⟨fun pins s σ H D I h => (pss_cons (ps_ret (pe_xf T (hno f (List.mem_of_getElem? e3)) hz hf (rd _))) pss_nil).run pins s σ H D I h⟩
  | lst z j f =>
    cases py <;> first | (exfalso; revert hm; simp [mHx]; done) | skip
    rename_i es p
    match es, hm with
    | [.Constant (.str z') _ _, .Attribute (.Name y _) at_ _], hm =>
      simp only [mHx, Bool.and_eq_true, decide_eq_true_eq] at hm
      obtain ⟨⟨⟨rfl, rfl⟩, e2⟩, e3⟩ := hm
      cases isN_eq e2
      refine ⟨fun pins s σ H D I h => (pss_cons (ps_ret (pe_lst (pa_cons pe_str (pa_cons (pe_xf T (hno f (List.mem_of_getElem? e3)) hz hf (rd _)) pa_nil)))) pss_nil).run pins s σ H D I h⟩
  | tup z j f =>
    cases py <;> first | (exfalso; revert hm; simp [mHx]; done) | skip
    rename_i es kx p
    match es, hm with
    | [.Constant (.str z') _ _, .Attribute (.Name y _) at_ _], hm =>
      simp only [mHx, Bool.and_eq_true, decide_eq_true_eq] at hm
      obtain ⟨⟨⟨rfl, rfl⟩, e2⟩, e3⟩ := hm
      cases isN_eq e2
      refine ⟨fun pins s σ H D I h => (pss_cons (ps_ret (pe_tup (pa_cons pe_str (pa_cons (pe_xf T (hno f (List.mem_of_getElem? e3)) hz hf (rd _)) pa_nil)))) pss_nil).run pins s σ H D I h⟩
theorem RS.giveS {K : PySem.W.Frag} {c : En} {σ : L2.St} {H Z : Hp} {ev : Ev} {A : Nat → List Addr} (R : RS K c σ H Z ev A) {De : Ends} {w : Wd} {r : RV} (hw : w.K = K) (hc : w.c = c) (h : OutS w Z (.ok (.rt r) ev) De) : Give K Z H r De.rt := by
  subst hw hc
  intro x Z' H' g n
  refine h σ H' Z' A x g.zz (R.ext g.zz g.sub g.zf g.hh) ?_
  cases r with
  | v d => exact n
  | s i => exact n.elim
  | f o =>
    obtain ⟨a, as, e, oc, nd, hb⟩ := n
    exact ⟨a, as, e, oc, nd, fun b hm => ⟨(hb b hm).1, R.dead (hb b hm).2, R.fFree (hb b hm).2, fun i hi => R.alive hi (hb b hm).2⟩⟩

theorem kindOf_loc {env : Env} {n : Str} (hk : env.scope.kind = .function) (h : env.scope.names.lookup n = some .local) : env.kindOf n = some .local := by
  unfold Env.kindOf
  simp [h]
/-- what a clause that returns at once makes of an exception -/
theorem trTs_ok {w : Wd} {σ1 : L2.St} {H1 Z1 : Hp} {e1 : Ev} {A1 : Nat → List Addr} {x : String} {C a : Addr} {cls : Value} {dd : Option Addr} {h : Hx} {i : Nat} {e : Exc} {r : RV} {De De' : Ends}
    (R1 : RS w.K w.c σ1 H1 Z1 e1 A1) (hil : i < σ1.length) (hcx : e.c = x) (hC : w.ca x = some C) (hj : (w.xf x)[h.j]? = some h.f) (hex : ExOk w.K w.ca w.xf e cls dd H1 Z1) (hr : evHx h e.fs = some r) (g : Give w.K Z1 H1 r De.rt) (hD : De'.rt = De.rt) :
    trTs h i C a cls dd De' (σ1.set i (some (.ref a))) H1 := by
  obtain ⟨Cx, d, fs, q1, q2, q3, q4, q5⟩ := hex
  have hCC : Cx = C := by rw [hcx, hC] at q1; cases q1; rfl
  subst hCC
  have hvar : (σ1.set i (some (.ref a)))[i]? = some (some (V.ref a)) := by rw [List.getElem?_set_self hil]
  rw [← hD] at g
  cases h with
  | fld j f =>
    simp only [evHx] at hr
    cases hy : e.fs[j]? with
    | none => rw [hy] at hr; cases hr
    | some y =>
      rw [hy] at hr
      cases hr
      obtain ⟨v, v1, v2⟩ := q5 j f y (by rw [hcx]; exact hj) hy
      exact ⟨_, hvar, rfl, q2, d, fs, v, q3, q4, v1, g.v R1.sub v2⟩
  | lst z j f =>
    simp only [evHx] at hr
    cases hy : e.fs[j]? with
    | none => rw [hy] at hr; cases hr
    | some y =>
      rw [hy] at hr
      cases hr
      obtain ⟨v, v1, v2⟩ := q5 j f y (by rw [hcx]; exact hj) hy
      refine ⟨_, hvar, rfl, q2, d, fs, v, q3, q4, v1, ?_⟩
      exact ⟨by rw [sizeLine_eq]; simp, fun p hp => g.lst R1.sub (by rw [sizeLine_eq]; simp) (.cons (.str _) (.cons v2 .nil)) hp⟩
  | tup z j f =>
    simp only [evHx] at hr
    cases hy : e.fs[j]? with
    | none => rw [hy] at hr; cases hr
    | some y =>
      rw [hy] at hr
      cases hr
      obtain ⟨v, v1, v2⟩ := q5 j f y (by rw [hcx]; exact hj) hy
      refine ⟨_, hvar, rfl, q2, d, fs, v, q3, q4, v1, ?_⟩
      exact ⟨by rw [sizeLine_eq]; simp, fun p hp => g.tup R1.sub (by rw [sizeLine_eq]; simp) (.cons (.str _) (.cons v2 .nil)) hp⟩
/-- the clauses of the core text and those of the rule -/
inductive LkC (ca : String → Option Addr) (xf : String → List String) : List Hd → List Cls → Prop
  | nil : LkC ca xf [] []
  | cons {h : Hd} {hs : List Hd} {qs : List Cls} {x : String} {i : Nat} {hx : Hx} {C : Addr} (hp : hdP h = some (x, i, hx)) (hC : ca x = some C) (hj : (xf x)[hx.j]? = some hx.f) (h1 : x ≠ "ValueError") (h2 : x ≠ "BideError") (r : LkC ca xf hs qs) : LkC ca xf (h :: hs) ((.ref C, i, trTs hx i C) :: qs)
theorem mHds_lk {w : Wd} {k : Nat} {N : List Str} {xs : List String} {X : Cx} (hS : XSt w k N xs X) : ∀ {hs : List Hd} {es : List ExceptHandler}, mHds N w.xf X.env.scope hs es = true → ∃ qs, LkC w.ca w.xf hs qs ∧ Clauses X es qs
  | [], [], _ => ⟨[], .nil, .nil⟩
  | [], _ :: _, h => by simp [mHds] at h
  | _ :: _, [], h => by simp [mHds] at h
  | hd :: hs, e :: es, h => by
    simp only [mHds, Bool.and_eq_true] at h
    obtain ⟨qs, l, c⟩ := mHds_lk hS h.2
    have hm := h.1
    unfold mHd at hm
    split at hm
    · rename_i x i hx y n py h1 h2
      simp only [Bool.and_eq_true, decide_eq_true_eq] at hm
      obtain ⟨⟨⟨⟨⟨⟨⟨⟨n1, n2⟩, n3⟩, n4⟩, n5⟩, n6⟩, n7⟩, n8⟩, n9, n10⟩ := hm
      obtain ⟨np, rp, hp, rfl⟩ := ehP_eq h2
      cases isN_eq n1
      obtain ⟨C, hC, hj⟩ := mHx_has hS.xc n8
      refine ⟨_, .cons h1 hC hj.1 n9 n10 l, .cons ⟨glb_gl n2, okN1 n3, .inl (hS.xc.mgx x C hC)⟩ (by rw [hS.x.N]; exact n4) (kindOf_loc hS.kind n7) (fun a oe cls d pn hz hf => ?_) c⟩
      exact trSuite hS.x.N n4 n5 n6 (hS.xc.xfc x C hC) (fun f hm => hS.xc.nof x C hC f hm) hz hf n8
    · cases hm
theorem subX_leaf {x y : String} (h1 : y ≠ "ValueError") (h2 : y ≠ "BideError") : subX x y = decide (x = y) := by
  unfold subX
  rw [beq_false_of_ne h1, beq_false_of_ne h2]
  by_cases h : x = y
  · subst h; simp
  · rw [beq_false_of_ne h]; simp [h]
/-- what the clauses make of an exception -/
theorem lk_takes {w : Wd} {k : Nat} {N : List Str} {xs : List String} {X : Cx} (hS : XSt w k N xs X) {σ1 : L2.St} {H1 Z1 : Hp} {e1 : Ev} {A1 : Nat → List Addr} {e : Exc} {cls : Value} {dd : Option Addr} {De : Ends} (R1 : RS w.K w.c σ1 H1 Z1 e1 A1) (hex : ExOk w.K w.ca w.xf e cls dd H1 Z1) :
    ∀ {hs : List Hd} {qs : List Cls}, LkC w.ca w.xf hs qs → slotsB e1 hs = true → (match evHds e hs with
      | some (some r) => Give w.K Z1 H1 r De.rt
      | some none => w.W cls dd σ1 H1
      | none => False) → takes w.K w.W De qs cls dd σ1 H1
  | _, _, .nil, _, h => h
  | _, _, .cons (h := hd) (hs := hs) (x := x) (i := i) (hx := hx) (C := C) hp hC hj n1 n2 r, hsl, h => by
    obtain ⟨Cx, d, fs, q1, q2, q3, q4, q5⟩ := id hex
    have hexm := hS.xc.exm e.c x Cx C q1 hC
    rw [hS.x.K] at hexm
    have hd' : hd.c = x ∧ hd.sl = some i ∧ (∀ r', evHB e hd.ts hd.el = some r' → evHx hx e.fs = some r') ∧ (evHB e hd.ts hd.el = none → evHx hx e.fs = none) := by
      unfold hdP at hp
      split at hp
      · cases hp
        refine ⟨rfl, rfl, fun r' q => ?_, fun q => ?_⟩
        · simp only [evHB, evHX, evHA] at q
          exact q
        · simp only [evHB, evHX, evHA] at q
          exact q
      · cases hp
        refine ⟨rfl, rfl, fun r' q => ?_, fun q => ?_⟩
        · simp only [evHB, evHX, evHA, evHAs] at q
          simp only [evHx]
          rename_i j f
          cases hy : e.fs[j]? with
          | none => rw [hy] at q; simp at q
          | some y => rw [hy] at q; simpa using q
        · simp only [evHB, evHX, evHA, evHAs] at q
          simp only [evHx]
          rename_i j f
          cases hy : e.fs[j]? with
          | none => rfl
          | some y => rw [hy] at q; simp at q
      · cases hp
        refine ⟨rfl, rfl, fun r' q => ?_, fun q => ?_⟩
        · simp only [evHB, evHX, evHA, evHAs] at q
          simp only [evHx]
          rename_i j f
          cases hy : e.fs[j]? with
          | none => rw [hy] at q; simp at q
          | some y => rw [hy] at q; simpa using q
        · simp only [evHB, evHX, evHA, evHAs] at q
          simp only [evHx]
          rename_i j f
          cases hy : e.fs[j]? with
          | none => rfl
          | some y => rw [hy] at q; simp at q
      · cases hp
    obtain ⟨p1, p2, p3, p4⟩ := hd'
    simp only [slotsB, List.all_cons, Bool.and_eq_true] at hsl
    rw [p2] at hsl
    have hil : i < σ1.length := by rw [R1.len]; exact of_decide_eq_true hsl.1
    refine ⟨decide (e.c = x), by rw [q2]; exact hexm, fun yes a ha => ?_, fun no => ?_⟩
    · have hcx := of_decide_eq_true yes
      simp only [evHds, p1, subX_leaf n1 n2, yes, if_true] at h
      cases hr : evHB e hd.ts hd.el with
      | none => rw [hr] at h; exact h.elim
      | some r' =>
        rw [hr] at h
        exact trTs_ok R1 hil hcx hC hj hex (p3 r' hr) h rfl
    · have hcx := of_decide_eq_false no
      refine lk_takes hS R1 hex r hsl.2 ?_
      simp only [evHds, p1, subX_leaf n1 n2, no, Bool.false_eq_true, if_false] at h
      exact h
mutual
theorem sndS : ∀ (s : S) {w : Wd} {k : Nat} {N : List Str} {xs : List String} {X : Cx} {py : Stmt}, XSt w k N xs X → Takes X w.W → mS N w.ren xs w.xf s X.env.scope py = true → PS X py (semS w s)
  | .asg i e, w, k, N, xs, X, py, hS, tk, hm => by
    cases py <;> first | (exfalso; revert hm; simp [mS]; done) | skip
    rename_i ts py pos
    match ts, hm with
    | [], hm => exact absurd hm (by simp [mS])
    | _ :: _ :: _, hm => exact absurd hm (by simp [mS])
    | [t], hm =>
      cases t <;> first | (exfalso; revert hm; simp [mS]; done) | skip
      rename_i x xp
      simp only [mS, Bool.and_eq_true] at hm
      obtain ⟨h1, h2, h3⟩ := wr_loc hm.1 hS.hf
      have hsw := swap_eq (x := x) (p := xp) (l := pos.line) hS.kind (mE_lcOnly hm.2)
      have body : PS X (.Assign [.Name x xp] py pos) (tAsg (semE w e) (gName i)) := by
        cases hb : swapB py x xp X.env.scope with
        | false =>
          rw [hb] at hsw
          exact ps_set hS.x.nd (by rw [hS.x.N]; exact h1) h2 (sndE e hS.x tk hm.2) hsw h3
        | true =>
          rw [hb] at hsw
          have hc : notLc py = false := by cases py <;> first | rfl | (simp [swapB] at hb)
          have hl : X.env.scope.names.lookup x = some .local := by
            cases py <;> first | (simp [swapB] at hb; done) | skip
            all_goals (simp only [swapB, Bool.and_eq_true, beq_iff_eq] at hb; exact hb.1.1)
          exact setLc_ok hS tk hm.2 h1 hl hsw hc
      refine ⟨fun pins s σ H De I h => body.run pins s σ H De I ?_⟩
      obtain ⟨ev, Z, A, R, h⟩ := h
      simp only [evS] at h
      exact semE_mono (stm0 R h) fun v H1 ⟨r, e1, Z1, A1, s1, R1, q1, h1⟩ => asg_fin R1 q1 h1
  | .unp is e, w, k, N, xs, X, py, hS, tk, hm => by
    simp only [mS] at hm
    have hm2 := Bool.or_eq_true_iff.mp hm
    clear hm
    rcases hm2 with hm | hm
    · exact par_ok hS tk hm
    cases py <;> first | (exfalso; revert hm; simp [mS]; done) | skip
    rename_i ts py pos
    match ts, hm with
    | [], hm => exact absurd hm (by simp [mS])
    | _ :: _ :: _, hm => exact absurd hm (by simp [mS])
    | [t], hm =>
      cases t <;> first | (exfalso; revert hm; simp [mS]; done) | skip
      rename_i es kk xp
      simp only [mS, Bool.and_eq_true] at hm
      obtain ⟨⟨h1, h2⟩, h3⟩ := hm
      have g : PG X (.Tuple es kk xp) (gTg X.K true is) := sndTg (fb := fT) (N := N) hS.x.N hS.x.nd hS.x.calm hS.hf (by simpa [mTg] using h1)
      refine ⟨fun pins s σ H De I h => (ps_asg (sndE e hS.x tk h2) g sole_tup ((Bool.or_eq_true_iff.mp h3).elim stores_tup stores_cell) rfl).run pins s σ H De I ?_⟩
      obtain ⟨ev, Z, A, R, h⟩ := h
      simp only [evS] at h
      refine semE_mono (stm1 R h) fun v H1 ⟨r, e1, Z1, A1, s1, R1, q1, h1⟩ => ?_
      split at h1
      · rename_i ds e2 hd
        obtain ⟨Z2, A2, s2, R2, rp⟩ := R1.esc q1 hd
        split at h1
        · rename_i e3 he
          rw [hS.x.K]
          refine RS.bindTg (tup := true) (d := .tuple ds) R2 rp (by simpa [bindTg] using he) fun vs A3 R3 => ?_
          exact h1 _ H1 Z2 A3 s2 R3
        · exact h1.elim
      · exact h1.elim
  | .unl is e, w, k, N, xs, X, py, hS, tk, hm => by
    cases py <;> first | (exfalso; revert hm; simp [mS]; done) | skip
    rename_i ts py pos
    match ts, hm with
    | [], hm => exact absurd hm (by simp [mS])
    | _ :: _ :: _, hm => exact absurd hm (by simp [mS])
    | [t], hm =>
      cases t <;> first | (exfalso; revert hm; simp [mS]; done) | skip
      rename_i es kk xp
      simp only [mS, Bool.and_eq_true] at hm
      obtain ⟨⟨h1, h2⟩, h3⟩ := hm
      have g : PG X (.Tuple es kk xp) (gUnl X.K is.length (gNames is)) := by
        obtain ⟨q1, q2, q3⟩ := sndTgs hS.x.N hS.x.nd hS.hf h1
        exact pg_unl hS.x.calm q1 q2 q3
      refine ⟨fun pins s σ H De I h => (ps_asg (sndE e hS.x tk h2) g sole_tup (stores_tup h3) rfl).run pins s σ H De I ?_⟩
      obtain ⟨ev, Z, A, R, h⟩ := h
      simp only [evS] at h
      refine semE_mono (stm1 R h) fun v H1 ⟨r, e1, Z1, A1, s1, R1, q1, h1⟩ => ?_
      split at h1
      · rename_i ds e2 hd
        obtain ⟨Z2, A2, s2, R2, rp⟩ := R1.esc q1 hd
        split at h1
        · rename_i e3 he
          rw [hS.x.K]
          refine RS.unl R2 rp he fun vs A3 R3 => ?_
          exact h1 _ H1 Z2 A3 s2 R3
        · exact h1.elim
      · exact h1.elim
  | .sti i a v, w, k, N, xs, X, py, hS, tk, hm => by
    cases py <;> first | (exfalso; revert hm; simp [mS]; done) | skip
    rename_i ts py pos
    match ts, hm with
    | [], hm => exact absurd hm (by simp [mS])
    | _ :: _ :: _, hm => exact absurd hm (by simp [mS])
    | [t], hm =>
      cases t <;> first | (exfalso; revert hm; simp [mS]; done) | skip
      rename_i o ix xp
      cases o <;> first | (exfalso; revert hm; simp [mS]; done) | skip
      simp only [mS, Bool.and_eq_true] at hm
      exact sti_ok hS tk hm.1.1 hm.1.2 hm.2
  | .st2 i a j v, w, k, N, xs, X, py, hS, tk, hm => by
    cases py <;> first | (exfalso; revert hm; simp [mS]; done) | skip
    rename_i ts py pos
    match ts, hm with
    | [], hm => exact absurd hm (by simp [mS])
    | _ :: _ :: _, hm => exact absurd hm (by simp [mS])
    | [t], hm =>
      cases t <;> first | (exfalso; revert hm; simp [mS]; done) | skip
      rename_i o ix xp
      cases o <;> first | (exfalso; revert hm; simp [mS]; done) | skip
      rename_i o1 ix1 xp1
      cases o1 <;> first | (exfalso; revert hm; simp [mS]; done) | skip
      cases ix <;> first | (exfalso; revert hm; simp [mS]; done) | skip
      simp only [mS, Bool.and_eq_true] at hm
      exact st2_ok hS tk hm.1.1.1 hm.1.1.2 hm.1.2 hm.2
  | .std i a v, w, k, N, xs, X, py, hS, tk, hm => by
    cases py <;> first | (exfalso; revert hm; simp [mS]; done) | skip
    rename_i ts py pos
    match ts, hm with
    | [], hm => exact absurd hm (by simp [mS])
    | _ :: _ :: _, hm => exact absurd hm (by simp [mS])
    | [t], hm =>
      cases t <;> first | (exfalso; revert hm; simp [mS]; done) | skip
      rename_i o ix xp
      cases o <;> first | (exfalso; revert hm; simp [mS]; done) | skip
      simp only [mS, Bool.and_eq_true] at hm
      exact std_ok hS tk hm.1.1 hm.1.2 hm.2
  | .xpr e, w, k, N, xs, X, py, hS, tk, hm => by
    cases py <;> first | (exfalso; revert hm; simp [mS]; done) | skip
    rename_i py pos
    simp only [mS, Bool.and_eq_true] at hm
    refine ⟨fun pins s σ H De I h => (ps_expr (sndE e hS.x tk hm.1) (swap_none (mE_lcOnly hm.1) hm.2)).run pins s σ H De I ?_⟩
    obtain ⟨ev, Z, A, R, h⟩ := h
    simp only [evS] at h
    exact semE_mono (stm0 R h) fun v H1 ⟨r, e1, Z1, A1, s1, R1, q1, h1⟩ => h1 σ H1 Z1 A1 (Same.refl _) R1
  | .ife t a b, w, k, N, xs, X, py, hS, tk, hm => by
    cases py <;> first | (exfalso; revert hm; simp [mS]; done) | skip
    rename_i c p q pos
    simp only [mS, Bool.and_eq_true] at hm
    refine ⟨fun pins s σ H De I h => (ps_if (sndT t hS.x tk hm.1.1) (sndSs a hS tk hm.1.2) (sndSs b hS tk hm.2)).run pins s σ H De I ?_⟩
    obtain ⟨ev, Z, A, R, h⟩ := h
    simp only [evS] at h
    refine semT_mono (stmT R h) fun v H1 ⟨e1, Z1, A1, s1, R1, h1⟩ => ?_
    cases v with
    | true => rw [if_pos rfl]; exact ⟨e1, Z1, A1, R1, h1⟩
    | false => rw [if_neg (by simp)]; exact ⟨e1, Z1, A1, R1, h1⟩
  | .forr tg tup it b, w, k, N, xs, X, py, hS, tk, hm => by
    cases py <;> first | (exfalso; revert hm; simp [mS]; done) | skip
    rename_i t iter body orelse pos
    cases orelse <;> first | (exfalso; revert hm; simp [mS]; done) | skip
    simp only [mS, Bool.and_eq_true] at hm
    have g : PG X t (gTg X.K tup tg) := sndTg (fb := fT) (N := N) hS.x.N hS.x.nd hS.x.calm hS.hf hm.1.1
    refine ⟨fun pins s σ H De I h => (ps_for hS.pass hS.x.calm (sndIt it hS.x tk hm.1.2) g (sndSs b hS tk hm.2) (fold_of (mIt_noStar hm.1.2))).run pins s σ H De I ?_⟩
    obtain ⟨ev, Z, A, R, h⟩ := h
    simp only [evS] at h
    rw [hS.x.K]
    exact ⟨ev, Z, A, R, h.bnd.imp fun ds e1 H1 Z1 A1 s1 R1 q J wk => for_turns wk R1 q⟩
  | .fork tg tup i b, w, k, N, xs, X, py, hS, tk, hm => by
    cases py <;> first | (exfalso; revert hm; simp [mS]; done) | skip
    rename_i t iter body orelse pos
    cases orelse <;> first | (exfalso; revert hm; simp [mS]; done) | skip
    cases iter <;> first | (exfalso; revert hm; simp [mS]; done) | skip
    rename_i x xp
    simp only [mS, Bool.and_eq_true] at hm
    have g : PG X t (gTg X.K tup tg) := sndTg (fb := fT) (N := N) hS.x.N hS.x.nd hS.x.calm hS.hf hm.1.1
    have bd : PSs X body (anySs w b) := ⟨fun pins s σ H De I ⟨c', q⟩ => (sndSs b (hS.blk c') takesF hm.2).run pins s σ H De I q⟩
    have main := ps_for (iter := .Name x xp) (pos := pos) hS.pass hS.x.calm (pi_keys (rd_slot hS.x.N hm.1.2)) g bd (fold_of rfl)
    refine ⟨fun pins s σ H De I h => ?_⟩
    obtain ⟨ev, Z, A, R, h⟩ := h
    simp only [evS] at h
    rw [hS.x.K] at main
    cases hk : keysE ev i with
    | none => rw [hk] at h; exact h.elim
    | some p =>
      obtain ⟨ds, e1⟩ := p
      rw [hk] at h
      simp only at h
      obtain ⟨Z1, A1, d, s1, R1, hx, wk⟩ := keysE_ok R hk
      have h1 := h.same s1
      rcases wk with ⟨q, ks, gz, wk⟩ | ⟨q, ks, gz, wk⟩ | ⟨ks, gz, wk⟩ | ⟨ks, gz, wk⟩
      · exact main.run pins s σ H De I ⟨.ref d, hx, d, q, rfl, .inl ⟨ks, R1.sub _ _ gz, for_turnsA wk R1 h1.noX⟩⟩
      · exact main.run pins s σ H De I ⟨.ref d, hx, d, q, rfl, .inr ⟨ks, R1.sub _ _ gz, for_turnsA wk R1 h1.noX⟩⟩
      · refine (ps_lock main).run pins s σ H De I ⟨d, .dK ks, R1.sub _ _ gz, trivial, fun q => ⟨.ref d, hx, d, q, rfl, .inl ⟨ks, upd_same, ?_⟩⟩⟩
        have l : Lk (.dK ks) (.frz q (.dK ks)) := .inl ⟨_, .inl rfl, .inr ⟨q, rfl⟩⟩
        exact for_turnsA (w := w.blk (w.c.lk d (.frz q (.dK ks)))) (wk q) (R1.swap l gz) (OutS.lock R1 gz l h1)
      · refine (ps_lock main).run pins s σ H De I ⟨d, .dT ks, R1.sub _ _ gz, trivial, fun q => ⟨.ref d, hx, d, q, rfl, .inr ⟨ks, upd_same, ?_⟩⟩⟩
        have l : Lk (.dT ks) (.frz q (.dT ks)) := .inr ⟨_, .inl rfl, .inr ⟨q, rfl⟩⟩
        exact for_turnsA (w := w.blk (w.c.lk d (.frz q (.dT ks)))) (wk q) (R1.swap l gz) (OutS.lock R1 gz l h1)
  | .whl n t b, w, k, N, xs, X, py, hS, tk, hm => by
    cases py <;> first | (exfalso; revert hm; simp [mS]; done) | skip
    rename_i c body orelse pos
    cases orelse <;> first | (exfalso; revert hm; simp [mS]; done) | skip
    simp only [mS, Bool.and_eq_true] at hm
    refine ⟨fun pins s σ H De I h => (ps_while hS.pass (sndT t hS.x tk hm.1) (sndSs b hS tk hm.2)).run pins s σ H De I ?_⟩
    obtain ⟨ev, Z, A, R, h⟩ := h
    simp only [evS] at h
    refine ⟨fun m σ H => ∃ ev Z A, RS w.K w.c σ H Z ev A ∧ OutS w Z (whlL (evT w.cf t) (evSs w.cf b) m ev) De, ⟨n, ev, Z, A, R, h⟩, fun m σ' H' hw => ?_⟩
    obtain ⟨ev', Z', A', R', h'⟩ := hw
    cases m with
    | zero => exact h'.elim
    | succ m =>
      have h'' : OutS w Z' ((evT w.cf t ev').bind fun kk ev1 => match kk with
        | true => match evSs w.cf b ev1 with
          | .ok .nx ev2 => whlL (evT w.cf t) (evSs w.cf b) m ev2
          | .ok .ct ev2 => whlL (evT w.cf t) (evSs w.cf b) m ev2
          | .ok .br ev2 => .ok .nx ev2
          | .ok (.rt r) ev2 => .ok (.rt r) ev2
          | .ex x ev2 => .ex x ev2
          | .bad => .bad
        | false => .ok .nx ev1) De := by
        simp only [whlL] at h'
        cases ht : evT w.cf t ev' with
        | ok kk e => rw [ht] at h'; cases kk <;> exact h'
        | ex x e => rw [ht] at h'; exact h'
        | bad => rw [ht] at h'; exact h'
      refine semT_mono (stmT R' h'') fun v H1 ⟨e1, Z1, A1, s1, R1, h1⟩ => ?_
      cases v with
      | false => rw [if_neg (by simp)]; exact h1 σ' H1 Z1 A1 (Same.refl _) R1
      | true =>
        rw [if_pos rfl]
        refine ⟨fun σ2 H2 => ∃ ev Z A, RS w.K w.c σ2 H2 Z ev A ∧ OutS w Z (whlL (evT w.cf t) (evSs w.cf b) m ev) De, fun σ2 H2 q => ⟨m, Nat.lt_succ_self m, q⟩, e1, Z1, A1, R1, ?_⟩
        simp only at h1
        cases hf : evSs w.cf b e1 with
        | bad => rw [hf] at h1; exact h1.elim
        | ex x e => rw [hf] at h1; exact h1
        | ok a e =>
          rw [hf] at h1
          cases a with
          | nx => exact fun σ3 H3 Z3 A3 s3 R4 => ⟨e, Z3, A3, R4, OutS.same h1 s3⟩
          | ct => exact fun σ3 H3 Z3 A3 s3 R4 => ⟨e, Z3, A3, R4, OutS.same h1 s3⟩
          | br => exact h1
          | rt q => exact h1
  | .ret e, w, k, N, xs, X, py, hS, tk, hm => by
    cases py <;> first | (exfalso; revert hm; simp [mS]; done) | skip
    rename_i v pos
    cases v <;> first | (exfalso; revert hm; simp [mS]; done) | skip
    simp only [mS] at hm
    refine ⟨fun pins s σ H De I h => (ps_ret (sndE e hS.x tk hm)).run pins s σ H De I ?_⟩
    obtain ⟨ev, Z, A, R, h⟩ := h
    simp only [evS] at h
    exact semE_mono (stm0 R h) fun v H1 ⟨r, e1, Z1, A1, s1, R1, q1, h1⟩ => ret_fin R1 q1 h1
  | .retN, w, k, N, xs, X, py, hS, tk, hm => by
    cases py <;> first | (exfalso; revert hm; simp [mS]; done) | skip
    rename_i v pos
    cases v <;> first | (exfalso; revert hm; simp [mS]; done) | skip
    refine ⟨fun pins s σ H De I h => ps_retN.run pins s σ H De I ?_⟩
    obtain ⟨ev, Z, A, R, h⟩ := h
    exact h σ H Z A .non (Same.refl _) R .non
  | .rse n es, w, k, N, xs, X, py, hS, tk, hm => by
    cases py <;> first | (exfalso; revert hm; simp [mS]; done) | skip
    rename_i ex cause pos
    cases cause <;> first | (exfalso; revert hm; cases ex <;> simp [mS]; done) | skip
    cases ex <;> first | (exfalso; revert hm; simp [mS]; done) | skip
    rename_i ex
    cases ex <;> first | (exfalso; revert hm; simp [mS]; done) | skip
    rename_i fn as kws cpos
    cases fn <;> first | (exfalso; revert hm; simp [mS]; done) | skip
    match as, kws, hm with
    | [], _, hm => exact absurd hm (by simp [mS])
    | _ :: _, _ :: _, hm => exact absurd hm (by simp [mS])
    | y :: ys, [], hm =>
      simp only [mS, Bool.and_eq_true, decide_eq_true_eq] at hm
      obtain ⟨⟨⟨⟨h1, h2⟩, h3⟩, h4⟩, h5⟩ := hm
      cases isN_eq h1
      have hst : starEach (y :: ys) X.env = (false, eval y X.env) :: starEach ys X.env := by
        cases es with
        | nil => simp [mEs] at h5
        | cons e es =>
          simp only [mEs, Bool.and_eq_true] at h5
          exact star_of (mE_noStar h5.1)
      have hany : (backTo cpos (starEach ys X.env)).any (·.1) = false := by
        cases es with
        | nil => simp [mEs] at h5
        | cons e es =>
          simp only [mEs, Bool.and_eq_true] at h5
          exact mEs_star h5.2
      refine ⟨fun pins s σ H De I h => (ps_raise hS.x.calm tk (hS.exs n h2 y ys _ _ _ (glb_gl h3) (sndEs es hS.x tk h5) hst hany h4)).run pins s σ H De I ?_⟩
      obtain ⟨ev, Z, A, R, h⟩ := h
      simp only [evS] at h
      refine semEs_mono (stmEsN R h) fun vs H1 ⟨rs, e1, Z1, A1, s1, R1, q1, hn1, h1⟩ => ?_
      split at h1
      · rename_i ds e2 hd
        obtain ⟨Z2, A2, s2, R2, rp⟩ := R1.escs q1 hd
        rw [hS.x.K]
        refine ⟨Z2, ds, R2.sub, rp, by rw [escs_n hd, hn1, mEs_n h5, List.length_cons]; exact h4, fun cls dd H' sH xo => h1 σ H' Z2 A2 cls dd s2 (R2.ext (Same.refl _) (fun p o e => sH p o (R2.sub p o e)) (fun _ _ e => .inl e) sH) xo⟩
      · exact h1.elim
  | .trx b x i h, w, k, N, xs, X, st, hS, tk, hm => by
    simp only [mS] at hm
    cases ht : trParts st with
    | none => rw [ht] at hm; cases hm
    | some q =>
      obtain ⟨y, n, py, body⟩ := q
      rw [ht] at hm
      obtain ⟨np, rp, pos', pos, rfl⟩ := trParts_eq ht
      simp only [Bool.and_eq_true, decide_eq_true_eq] at hm
      obtain ⟨⟨⟨⟨⟨⟨⟨⟨h1, h2⟩, h3⟩, h4⟩, h5⟩, h6⟩, h7⟩, h8⟩, h9⟩ := hm
      cases isN_eq h1
      obtain ⟨C, hC, hj⟩ := mHx_has hS.xc h8
      have hx : Names X (sN x) (.ref C) := ⟨glb_gl h2, okN1 h3, .inl (hS.xc.mgx x C hC)⟩
      have hsu : ∀ (a : Addr) (oe : Obj) (cls : Value) (d : Option Addr) (pn : List (Addr × Obj)), Zc cls d oe → (∃ vs, oe.data = .fields vs) → PSs (X.suite a ((a, oe) :: pn)) [.Return (some py) rp] (trTs h i C a cls d) := fun a oe cls d pn hz hf =>
        trSuite hS.x.N h4 h5 h6 (hS.xc.xfc x C hC) (fun f hm => hS.xc.nof x C hC f hm) hz hf h8
      refine ⟨fun pins s σ H De I hh => (ps_try_as (tb := fun W => semSs { w with W := W } b) (ts := trTs h i C) (Wout := w.W) hS.stk hS.frm hS.x.nd (by rw [hS.x.N]; exact h4) (kindOf_loc hS.kind h7) hx tk (fun W pn xe tk2 hp => ?_) hsu).run pins s σ H De I ?_⟩
      · exact sndSs b (w := { w with W := W }) (k := k) (N := N) (xs := []) (X := X.tr pn xe) ⟨⟨hS.x.K, hS.x.N, hS.x.calm, hS.x.nd, hS.x.room, hS.x.fns, hS.x.gls, hS.x.blt, hS.x.fn⟩, hS.kind, hp, (fun n hn => by cases hn), hS.stk, hS.frm, hS.xc⟩ tk2 h9
      · obtain ⟨ev, Z, A, R, hh⟩ := hh
        simp only [evS] at hh
        refine ⟨ev, Z, A, R, ?_⟩
        rw [hS.x.K]
        cases hb : evSs w.cf b ev with
        | bad => rw [hb] at hh; exact hh.elim
        | ok f e1 =>
          rw [hb] at hh
          cases f <;> exact hh
        | ex e e1 =>
          rw [hb] at hh
          dsimp only at hh
          intro σ1 H1 Z1 A1 cls dd s1 R1 hex
          obtain ⟨Cx, d, fs, q1, q2, q3, q4, q5⟩ := id hex
          have hexm := hS.xc.exm e.c x Cx C q1 hC
          rw [hS.x.K] at hexm
          refine ⟨decide (e.c = x), by rw [q2]; exact hexm, fun hd a ha => ?_, fun hd => ?_⟩
          · have hcx : e.c = x := of_decide_eq_true hd
            rw [if_pos hcx] at hh
            split at hh
            · rename_i sv r hsv hr
              have hil : i < σ1.length := by rw [R1.len]; exact (List.getElem?_eq_some_iff.mp hsv).1
              exact trTs_ok (De := De) R1 hil hcx hC hj.1 hex hr (RS.giveS R1 rfl rfl (OutS.same hh s1)) rfl
            · exact hh.elim
          · have hcx : ¬ e.c = x := of_decide_eq_false hd
            rw [if_neg hcx] at hh
            exact hh σ1 H1 Z1 A1 cls dd s1 R1 hex
  | .trm b hs, w, k, N, xs, X, st, hS, tk, hm => by
    cases st <;> first | (exfalso; revert hm; simp [mS]; done) | skip
    rename_i body hds orelse fin pos
    match hds, orelse, fin, hm with
    | [], _, _, hm => simp [mS] at hm
    | _ :: _, _ :: _, _, hm => simp [mS] at hm
    | _ :: _, [], _ :: _, hm => simp [mS] at hm
    | h0 :: hds, [], [], hm =>
      simp only [mS, Bool.and_eq_true] at hm
      obtain ⟨qs, lk, cl⟩ := mHds_lk hS hm.1
      refine ⟨fun pins s σ H De I hh => (ps_tries (tb := fun W => semSs { w with W := W } b) (out := w.W) hS.stk hS.frm hS.x.nd tk (fun W pn xe tk2 hp => ?_) cl).run pins s σ H De I ?_⟩
      · exact sndSs b (w := { w with W := W }) (k := k) (N := N) (xs := []) (X := X.tr pn xe) ⟨⟨hS.x.K, hS.x.N, hS.x.calm, hS.x.nd, hS.x.room, hS.x.fns, hS.x.gls, hS.x.blt, hS.x.fn⟩, hS.kind, hp, (fun n hn => by cases hn), hS.stk, hS.frm, hS.xc⟩ tk2 hm.2
      · obtain ⟨ev, Z, A, R, hh⟩ := hh
        simp only [evS] at hh
        refine ⟨ev, Z, A, R, ?_⟩
        rw [hS.x.K]
        cases hb : evSs w.cf b ev with
        | bad => rw [hb] at hh; exact hh.elim
        | ok f e1 =>
          rw [hb] at hh
          cases f <;> exact hh
        | ex e e1 =>
          rw [hb] at hh
          dsimp only at hh
          intro σ1 H1 Z1 A1 cls dd s1 R1 hex
          cases hsl : slotsB e1 hs with
          | false => rw [hsl] at hh; exact hh.elim
          | true =>
            rw [hsl] at hh
            refine lk_takes hS R1 hex lk hsl ?_
            cases he : evHds e hs with
            | none => rw [he] at hh; exact hh.elim
            | some o =>
              rw [he] at hh
              cases o with
              | none => exact hh σ1 H1 Z1 A1 cls dd s1 R1 hex
              | some r => exact RS.giveS R1 rfl rfl (OutS.same hh s1)
  | .unn is js e, w, k, N, xs, X, st, hS, tk, hm => by simp [mS] at hm
  | .sw2 i a b v u, w, k, N, xs, X, st, hS, tk, hm => by simp [mS] at hm
  | .pass, w, k, N, xs, X, py, hS, tk, hm => by
    have fin : ∀ {De : Ends} {σ : L2.St} {H : Hp}, semS w .pass De σ H → De.nx σ H := fun ⟨ev, Z, A, R, h⟩ => h _ _ Z A (Same.refl _) R
    cases py <;> first | (exfalso; revert hm; simp [mS]; done) | skip
    · rename_i v pos
      cases v <;> first | (exfalso; revert hm; simp [mS]; done) | skip
      rename_i c _ _
      cases c <;> first | (exfalso; revert hm; simp [mS]; done) | skip
      exact ⟨fun pins s σ H De I h => ps_doc.run pins s σ H De I (fin h)⟩
    · exact ⟨fun pins s σ H De I h => ps_pass.run pins s σ H De I (fin h)⟩
  | .brk, w, k, N, xs, X, py, hS, tk, hm => by
    cases py <;> first | (exfalso; revert hm; simp [mS]; done) | skip
    refine ⟨fun pins s σ H De I h => ps_break.run pins s σ H De I ?_⟩
    obtain ⟨ev, Z, A, R, h⟩ := h
    exact h _ _ Z A (Same.refl _) R
  | .cont, w, k, N, xs, X, py, hS, tk, hm => by
    cases py <;> first | (exfalso; revert hm; simp [mS]; done) | skip
    refine ⟨fun pins s σ H De I h => ps_continue.run pins s σ H De I ?_⟩
    obtain ⟨ev, Z, A, R, h⟩ := h
    exact h _ _ Z A (Same.refl _) R
  | .nev, w, k, N, xs, X, py, hS, tk, hm => ⟨fun pins s σ H De I h => by
    obtain ⟨ev, Z, A, R, h⟩ := h
    exact h.elim⟩
termination_by s => sizeOf s
decreasing_by all_goals (simp_wf; try omega)
theorem sndSs : ∀ (s : Ss) {w : Wd} {k : Nat} {N : List Str} {xs : List String} {X : Cx} {py : List Stmt}, XSt w k N xs X → Takes X w.W → mSs N w.ren xs w.xf s X.env.scope py = true → PSs X py (semSs w s)
  | .nil, w, k, N, xs, X, py, hS, tk, hm => by
    cases py with
    | cons _ _ => simp [mSs] at hm
    | nil =>
      refine ⟨fun pins s σ H De I h => pss_nil.run pins s σ H De I ?_⟩
      obtain ⟨ev, Z, A, R, h⟩ := h
      exact h _ _ Z A (Same.refl _) R
  | .cons a b, w, k, N, xs, X, py, hS, tk, hm => by
    cases py with
    | nil => simp [mSs] at hm
    | cons y ys =>
      simp only [mSs, Bool.and_eq_true] at hm
      refine ⟨fun pins s σ H De I h => (pss_cons (sndS a hS tk hm.1) (sndSs b hS tk hm.2)).run pins s σ H De I ?_⟩
      obtain ⟨ev, Z, A, R, h⟩ := h
      refine ⟨ev, Z, A, R, ?_⟩
      simp only [evSs] at h
      cases hf : evS w.cf a ev with
      | bad => rw [hf] at h; exact h.elim
      | ex x e => rw [hf] at h; exact h
      | ok fl e =>
        rw [hf] at h
        cases fl with
        | nx => exact fun σ3 H3 Z3 A3 s3 R4 => ⟨e, Z3, A3, R4, OutS.same h s3⟩
        | ct => exact h
        | br => exact h
        | rt q => exact h
termination_by s => sizeOf s
decreasing_by all_goals (simp_wf; try omega)
end
end Bide

set_option autoImplicit false
set_option Elab.async false
set_option maxRecDepth 100000
set_option linter.all false
set_option maxHeartbeats 4000000
/-! A def of the text keeps what its core text computes. -/
namespace Bide
open PySem L2

/-- the parameters' addresses -/
def A0 (P : List (Nat × Addr)) (i : Nat) : List Addr := match P.lookup i with
  | some a => [a]
  | none => []
section
variable {K : PySem.W.Frag} {Z H Z' H' : Hp}
theorem Args.ge : ∀ {i : Nat} {bs : List Bool} {vs : List V} {ds : List D} {P : List (Nat × Addr)}, Args K Z H i bs vs ds P → ∀ j a, (j, a) ∈ P → i ≤ j
  | _, _, _, _, _, .nil i, j, a, h => by simp at h
  | _, _, _, _, _, .sh _ r, j, a, h => by have := r.ge j a h; omega
  | _, _, _, _, _, .io h1 h2 h3 h4 h5 r, j, a, h => by
    rcases List.mem_cons.mp h with e | h
    · cases e; exact Nat.le_refl _
    · have := r.ge j a h; omega
theorem Args.zn : ∀ {i : Nat} {bs : List Bool} {vs : List V} {ds : List D} {P : List (Nat × Addr)}, Args K Z H i bs vs ds P → ∀ j a, (j, a) ∈ P → Z a = none
  | _, _, _, _, _, .nil i, j, a, h => by simp at h
  | _, _, _, _, _, .sh _ r, j, a, h => r.zn j a h
  | _, _, _, _, _, .io h1 h2 h3 h4 h5 r, j, a, h => by
    rcases List.mem_cons.mp h with e | h
    · cases e; exact h4
    · exact r.zn j a h
theorem Args.inj : ∀ {i : Nat} {bs : List Bool} {vs : List V} {ds : List D} {P : List (Nat × Addr)}, Args K Z H i bs vs ds P → ∀ j j' a, (j, a) ∈ P → (j', a) ∈ P → j = j'
  | _, _, _, _, _, .nil i, j, j', a, h, _ => by simp at h
  | _, _, _, _, _, .sh _ r, j, j', a, h, h' => r.inj j j' a h h'
  | _, _, _, _, _, .io h1 h2 h3 h4 h5 r, j, j', a, h, h' => by
    rcases List.mem_cons.mp h with e | h
    · cases e
      rcases List.mem_cons.mp h' with e | h'
      · cases e; rfl
      · exact absurd h' (h5 j')
    · rcases List.mem_cons.mp h' with e | h'
      · cases e; exact absurd h (h5 j)
      · exact r.inj j j' a h h'
theorem Args.look : ∀ {i : Nat} {bs : List Bool} {vs : List V} {ds : List D} {P : List (Nat × Addr)}, Args K Z H i bs vs ds P → ∀ j a, (j, a) ∈ P ↔ P.lookup j = some a
  | _, _, _, _, _, .nil i, j, a => by simp
  | _, _, _, _, _, .sh _ r, j, a => r.look j a
  | _, _, _, _, _, .io (i := i) (a := b) h1 h2 h3 h4 h5 r, j, a => by
    rw [List.lookup_cons, List.mem_cons, r.look j a]
    by_cases e : j = i
    · subst e
      simp only [beq_self_eq_true, Prod.mk.injEq, true_and, Option.some.injEq]
      constructor
      · rintro (rfl | h)
        · rfl
        · have := r.ge j a ((r.look j a).mpr h); omega
      · intro h; exact .inl h.symm
    · have e' : (j == i) = false := by simp [e]
      rw [e']
      simp [e]
theorem Args.start : ∀ {i : Nat} {bs : List Bool} {vs : List V} {ds : List D} {P : List (Nat × Addr)}, Args K Z H i bs vs ds P → ∀ {ev : Ev}, startE bs ds = some ev →
    ev.length = vs.length ∧ (∀ j sv, ev[j]? = some sv → SlR K Z H (vs.map some)[j]? (A0 P (i + j)) sv) ∧ (∀ j a, (i + j, a) ∈ P → ∃ ds, ev[j]? = some (.io ds)) ∧ (∀ j ds, ev[j]? = some (.io ds) → ∃ a, (i + j, a) ∈ P)
  | _, _, _, _, _, .nil i, ev, e => by
    cases e
    exact ⟨rfl, fun j sv h => by simp at h, fun j a h => by simp at h, fun j ds h => by simp at h⟩
  | i, _, _, _, P, .sh (v := v) hv r, ev, e => by
    simp only [startE, Option.map_eq_some_iff] at e
    obtain ⟨ev', e1, rfl⟩ := e
    obtain ⟨q1, q2, q3, q4⟩ := r.start e1
    have nl : P.lookup i = none := by
      cases h : P.lookup i with
      | none => rfl
      | some a => have := r.ge i a ((r.look i a).mpr h); omega
    refine ⟨by simp [q1], fun j sv h => ?_, fun j a h => ?_, fun j ds h => ?_⟩
    · cases j with
      | zero =>
        simp at h
        subst h
        refine ⟨?_, v, rfl, hv⟩
        unfold A0
        rw [Nat.add_zero, nl]
      | succ j =>
        have := q2 j sv (by simpa using h)
        rw [show i + (j + 1) = i + 1 + j by omega]
        simpa using this
    · cases j with
      | zero => have := r.ge (i + 0) a h; omega
      | succ j =>
        rw [show i + (j + 1) = i + 1 + j by omega] at h
        simpa using q3 j a h
    · cases j with
      | zero => simp at h
      | succ j =>
        rw [show i + (j + 1) = i + 1 + j by omega]
        exact q4 j ds (by simpa using h)
  | i, _, _, _, _, .io (a := a) (xs := xs) (P := P) h1 h2 h3 h4 h5 r, ev, e => by
    simp only [startE, Option.map_eq_some_iff] at e
    obtain ⟨ev', e1, rfl⟩ := e
    obtain ⟨q1, q2, q3, q4⟩ := r.start e1
    refine ⟨by simp [q1], fun j sv h => ?_, fun j b h => ?_, fun j ds h => ?_⟩
    · cases j with
      | zero =>
        simp at h
        subst h
        refine ⟨a, rfl, ?_, xs, h1, h2, h3⟩
        unfold A0
        rw [Nat.add_zero, List.lookup_cons]
        simp
      | succ j =>
        have := q2 j sv (by simpa using h)
        rw [show i + (j + 1) = i + 1 + j by omega]
        have e2 : A0 ((i, a) :: P) (i + 1 + j) = A0 P (i + 1 + j) := by
          unfold A0
          rw [List.lookup_cons, show (i + 1 + j == i) = false by simp; omega]
        rw [e2]
        simpa using this
    · cases j with
      | zero => exact ⟨_, rfl⟩
      | succ j =>
        rw [show i + (j + 1) = i + 1 + j by omega] at h
        rcases List.mem_cons.mp h with e | h
        · have := congrArg Prod.fst e
          simp only at this
          omega
        · simpa using q3 j b h
    · cases j with
      | zero => exact ⟨a, by simp⟩
      | succ j =>
        rw [show i + (j + 1) = i + 1 + j by omega]
        obtain ⟨b, hb⟩ := q4 j ds (by simpa using h)
        exact ⟨b, List.mem_cons_of_mem _ hb⟩
theorem A0_mem {i : Nat} {bs : List Bool} {vs : List V} {ds : List D} {P : List (Nat × Addr)} (h : Args K Z H i bs vs ds P) {j : Nat} {a : Addr} : a ∈ A0 P j ↔ (j, a) ∈ P := by
  rw [h.look j a]
  unfold A0
  cases P.lookup j with
  | none => simp
  | some b =>
    simp only [List.mem_singleton, Option.some.injEq]
    exact eq_comm
/-- the state at the entry -/
theorem Args.rs {bs : List Bool} {vs : List V} {ds : List D} {P : List (Nat × Addr)} {N : List Str} {ev : Ev} (h : Args K Z H 0 bs vs ds P) (s : Same Z H) (e : startE bs ds = some ev) (hn : vs.length ≤ N.length) :
    RS K ⟨H, Z, P, fun _ => none⟩ (L2.start N vs) H Z (ev ++ List.replicate (N.length - ev.length) .no) (A0 P) := by
  obtain ⟨q1, q2, q3, q4⟩ := h.start e
  have hs : ∀ j, j < vs.length → (L2.start N vs)[j]? = (vs.map some)[j]? := fun j hj => by
    unfold L2.start
    rw [List.getElem?_append_left (by simpa using hj)]
  exact {
    len := by unfold L2.start; simp [q1]
    sub := s
    z0 := Same.refl _
    zf := fun p o e => .inl e
    fr := fun p o e _ => e
    sl := fun i sv e => by
      by_cases hi : i < ev.length
      · rw [List.getElem?_append_left hi] at e
        rw [hs i (by omega)]
        have := q2 i sv e
        rwa [Nat.zero_add] at this
      · rw [List.getElem?_append_right (by omega), List.getElem?_replicate] at e
        split at e
        · cases e
          show A0 P i = []
          cases hA : A0 P i with
          | nil => rfl
          | cons a r =>
            have hm := (A0_mem h (j := i) (a := a)).mp (by rw [hA]; simp)
            obtain ⟨ds, hd⟩ := q3 i a (by rw [Nat.zero_add]; exact hm)
            have := (List.getElem?_eq_some_iff.mp hd).1
            omega
        · cases e
    out := fun i hi => by
      cases hA : A0 P i with
      | nil => rfl
      | cons a r =>
        have hm := (A0_mem h (j := i) (a := a)).mp (by rw [hA]; simp)
        obtain ⟨ds, hd⟩ := q3 i a (by rw [Nat.zero_add]; exact hm)
        have := (List.getElem?_eq_some_iff.mp hd).1
        simp at hi
        omega
    zo := fun i a hm => h.zn i a ((A0_mem h).mp hm)
    ao := fun i a hm => .inl ⟨i, (A0_mem h).mp hm⟩
    dis := fun i j a h1 h2 => h.inj i j a ((A0_mem h).mp h1) ((A0_mem h).mp h2)
    nod := fun i => by
      unfold A0
      split <;> simp
    io := fun i a hm => by
      obtain ⟨ds, hd⟩ := q3 i a (by rw [Nat.zero_add]; exact hm)
      refine ⟨?_, ds, ?_⟩
      · unfold A0
        rw [(h.look i a).mp hm]
      · rw [List.getElem?_append_left (List.getElem?_eq_some_iff.mp hd).1]
        exact hd
    oi := fun i ds hd => by
      by_cases hi : i < ev.length
      · rw [List.getElem?_append_left hi] at hd
        obtain ⟨a, ha⟩ := q4 i ds hd
        exact ⟨a, by rwa [Nat.zero_add] at ha⟩
      · rw [List.getElem?_append_right (by omega), List.getElem?_replicate] at hd
        split at hd <;> cases hd
    pf := fun p o e => by cases e
    ft := fun p o e => by cases e }
/-- what the lent lists are, at the end -/
theorem Args.outs {c : En} {σ : L2.St} {A : Nat → List Addr} {e0 : Ev} (R : RS K c σ H' Z' e0 A) : ∀ {i : Nat} {bs : List Bool} {vs : List V} {ds : List D} {P : List (Nat × Addr)} {e : Ev} {o : List (List D)}, Args K Z H i bs vs ds P → (∀ q, q ∈ P → q ∈ c.P) → e = e0.drop i → outsE e bs = some o → Outs K Z' H' P o
  | _, _, _, _, _, e, o, .nil i, hp, he, ho => by
    cases e <;> (simp only [outsE] at ho; cases ho; exact .nil)
  | i, _, _, _, _, e, o, .sh (bs := bs) _ r, hp, he, ho => by
    cases e with
    | nil => simp [outsE] at ho
    | cons y ys =>
      have ho' : outsE ys bs = some o := by
        cases y <;> simpa [outsE] using ho
      refine Args.outs R r hp ?_ ho'
      have := congrArg (List.drop 1) he
      rw [List.drop_drop] at this
      simpa using this
  | i, _, _, _, _, e, o, .io (a := a) h1 h2 h3 h4 h5 r, hp, he, ho => by
    cases e with
    | nil => simp [outsE] at ho
    | cons y ys =>
      cases y <;> simp only [outsE] at ho <;> first | (cases ho; done) | skip
      rename_i xs
      simp only [Option.map_eq_some_iff] at ho
      obtain ⟨o', ho', rfl⟩ := ho
      have h0 : e0[i]? = some (.io xs) := by
        have := congrArg (fun z => z[0]?) he
        simpa using this.symm
      obtain ⟨hA, _⟩ := R.io i a (hp _ (by simp))
      obtain ⟨b, hb, eA, zs, g1, g2, g3⟩ := R.sl i _ h0
      rw [hA] at eA
      cases eA
      refine .cons g1 g2 g3 (R.zo i a (by rw [hA]; simp)) (Args.outs R r (fun q hq => hp q (List.mem_cons_of_mem _ hq)) ?_ ho')
      have := congrArg (List.drop 1) he
      rw [List.drop_drop] at this
      simpa using this
end
/-- the end of a body -/
theorem out_of {w : Wd} {n : Nat} {bs : List Bool} {body : Ss} {vs : List V} {ds : List D} {P : List (Nat × Addr)} {N : List Str} {H Z : Hp} {Q : VK} {E : XK} {ev : Ev} (hn : n = N.length) (hw : w.c = ⟨H, Z, P, fun _ => none⟩) (hW : w.W = fun cls d _ H => E cls d H) (ha : Args w.K Z H 0 bs vs ds P) (he : startE bs ds = some ev)
    (h : match runF w.cf n bs body ds with
      | .ok r outs => ∀ x H' Z', Post Z H Z' H' P → Outs w.K Z' H' P outs → New w.K H Z' H' x r → Q x H'
      | .ex x => ∀ cls dd H' Z', Post Z H Z' H' P → ExOk w.K w.ca w.xf x cls dd H' Z' → E cls dd H'
      | .bad => False) : OutS w Z (evSs w.cf body (ev ++ List.replicate (N.length - ev.length) .no)) { nx := fun _ H' => Q .non H', rt := Q } := by
  have post : ∀ {σ H' Z' e A'}, RS w.K w.c σ H' Z' e A' → Post Z H Z' H' P := fun {σ H' Z' e A'} R => by
    rw [hw] at R
    exact ⟨R.z0, R.sub, R.zf, R.fr⟩
  have outs : ∀ {σ H' Z' e A' o}, RS w.K w.c σ H' Z' e A' → outsE e bs = some o → Outs w.K Z' H' P o := fun {σ H' Z' e A' o} R ho => by
    exact Args.outs R ha (by rw [hw]; exact fun _ q => q) rfl ho
  have hh : ∀ {σ H' Z' e A' x r}, RS w.K w.c σ H' Z' e A' → (∀ i, r ≠ .s i) → RR w.K w.c σ H' Z' e A' x r → New w.K H Z' H' x r := fun {σ H' Z' e A' x r} R hr q => by
    cases r with
    | v d => exact q
    | s i => exact absurd rfl (hr i)
    | f o =>
      obtain ⟨a, as, e1, oc, nd, hb⟩ := q
      refine ⟨a, as, e1, oc, nd, fun b hm => ⟨(hb b hm).1, ?_⟩⟩
      have := (hb b hm).2.1
      rw [hw] at this
      exact this
  unfold runF at h
  rw [he, hn] at h
  simp only at h
  cases hf : evSs w.cf body (ev ++ List.replicate (N.length - ev.length) .no) with
  | bad => rw [hf] at h; exact h.elim
  | ex x e =>
    rw [hf] at h
    intro σ H' Z' A' cls dd s R xo
    rw [hW]
    exact h cls dd H' Z' (post R) xo
  | ok a e =>
    rw [hf] at h
    cases a with
    | br => exact h.elim
    | ct => exact h.elim
    | nx =>
      simp only at h
      intro σ H' Z' A' s R
      split at h
      · rename_i r o hq
        split at hq
        · rename_i o' ho
          cases hq
          exact h .non H' Z' (post R) (outs R ho) .non
        · cases hq
      · rename_i hq
        split at hq <;> cases hq
      · exact h.elim
    | rt r =>
      cases r with
      | s i => exact h.elim
      | v d =>
        simp only at h
        intro σ H' Z' A' x s R q
        split at h
        · rename_i r o hq
          split at hq
          · rename_i o' ho
            cases hq
            exact h x H' Z' (post R) (outs R ho) (hh R (fun _ => by simp) q)
          · cases hq
        · rename_i hq
          split at hq <;> cases hq
        · exact h.elim
      | f d =>
        simp only at h
        intro σ H' Z' A' x s R q
        split at h
        · rename_i r o hq
          split at hq
          · rename_i o' ho
            cases hq
            exact h x H' Z' (post R) (outs R ho) (hh R (fun _ => by simp) q)
          · cases hq
        · rename_i hq
          split at hq <;> cases hq
        · exact h.elim
end Bide

set_option autoImplicit false
set_option Elab.async false
set_option maxRecDepth 100000
set_option linter.all false
set_option maxHeartbeats 4000000
/-! Defs, one after another. -/
namespace Bide
open PySem L2

def Def.names (d : Def) : List Str := d.N.map sN
def Def.ps (d : Def) : List Str := d.names.take d.np
def scB (N P : List Str) (sc : Scope) : Bool := decide (sc.kind = .function) && (!sc.isCoroutine && (!sc.isGenerator && (decide N.Nodup && (decide (N.take P.length = P) && (P.all (fun x => decide (sc.names.lookup x = some .local) || decide (sc.names.lookup x = some .cell)) && sc.names.all fun y => decide (y.2 ≠ .free))))))
theorem scB_ok {N P : List Str} {sc : Scope} (h : scB N P sc = true) : FnScope N P sc := by
  simp only [scB, Bool.and_eq_true, decide_eq_true_eq, Bool.not_eq_true', List.all_eq_true, Bool.or_eq_true] at h
  obtain ⟨h1, h2, h3, h4, h5, h6, h7⟩ := h
  exact ⟨h1, h2, h3, h4, h5, h6, h7⟩
def Def.chk (xs : List String) (xf : String → List String) (d : Def) (st : Stmt) : Bool := scB d.names d.ps (defScope st) && (decide (d.io.length = d.np) && (decide (d.np ≤ d.N.length) && mSs d.names id xs xf d.body (defScope st) (defBody st)))

/-- the program's surroundings -/
structure Wl where
  P : Program
  w : World
  K : PySem.W.Frag
  mg : Str → Option Value
  base : Heap
  ca : String → Option Addr
  xf : String → List String
  xs : List String
def FnsOk (W : Wl) (k : Nat) (c : Cf) : Prop := ∀ f F, c.G f = some F → ∃ a fd ps, W.mg (sN f) = some (.ref a) ∧ PySem.W.keepIn W.K (.ref a) = true ∧ Binds W.K fd ps [] ∧ FnOk W.P W.w W.K W.mg W.base (L2.CX W.P W.w) k a fd ps (spOf W.K W.ca W.xf F)
def GlsOk (W : Wl) (c : Cf) : Prop := ∀ x d, c.gl x = some d → ∃ v u, W.mg (sN x) = some u ∧ RelV v u ∧ ∀ Z, Rp W.K Z v d
def XsOk (W : Wl) : Prop := ∀ (X : Cx) (k : Nat), X.prog = W.P → X.w = W.w → X.K = W.K → X.mg = W.mg → X.base = W.base → X.calm = true → 1 ≤ k → Room (k + 1) X.A → ∀ n ∈ W.xs, ∀ (e : Expr) (es : List Expr) (ta : TA) (p pos : Pos), Gl X (sN n) → PA X (e :: es) ta → (starEach (e :: es) X.env = (false, eval e X.env) :: starEach es X.env) → ((backTo pos (starEach es X.env)).any (·.1) = false) → (es.length + 1 = (W.xf n).length) →
    PMk X (.Call (.Name (sN n) p) (e :: es) [] pos) (fun σ H Q => ta σ H fun vs H1 => ∃ Z ds, Same Z H1 ∧ Rps X.K Z vs ds ∧ ds.length = (W.xf n).length ∧ ∀ cls dd H', Same H1 H' → ExOk X.K W.ca W.xf ⟨n, ds⟩ cls dd H' Z → Q cls dd H')
structure WlOk (W : Wl) : Prop where
  blt : ∀ x ∈ bltNames, W.mg (sN x) = none
  exs : XsOk W
  xc : XcOk W.K W.mg W.ca W.xf
section
variable {W : Wl}
theorem FnsOk.mono {j k : Nat} {c : Cf} (h : FnsOk W j c) (l : j ≤ k) : FnsOk W k c := fun f F e => by
  obtain ⟨a, fd, ps, h1, h2, h3, h4⟩ := h f F e
  exact ⟨a, fd, ps, h1, h2, h3, h4.mono l⟩
theorem Args.len {K : PySem.W.Frag} {Z H : Hp} : ∀ {i : Nat} {bs : List Bool} {vs : List V} {ds : List D} {P : List (Nat × Addr)}, Args K Z H i bs vs ds P → vs.length = bs.length
  | _, _, _, _, _, .nil i => rfl
  | _, _, _, _, _, .sh _ r => by simp [r.len]
  | _, _, _, _, _, .io _ _ _ _ _ r => by simp [r.len]
theorem startE_of {K : PySem.W.Frag} {Z H : Hp} : ∀ {i : Nat} {bs : List Bool} {vs : List V} {ds : List D} {P : List (Nat × Addr)}, Args K Z H i bs vs ds P → ∃ ev, startE bs ds = some ev
  | _, _, _, _, _, .nil i => ⟨[], rfl⟩
  | _, _, _, _, _, .sh _ r => by
    obtain ⟨ev, e⟩ := startE_of r
    exact ⟨_, by simp only [startE, e]; rfl⟩
  | _, _, _, _, _, .io _ _ _ _ _ r => by
    obtain ⟨ev, e⟩ := startE_of r
    exact ⟨_, by simp only [startE, e]; rfl⟩
/-- a def keeps its promise -/
theorem def_ok {d : Def} {st : Stmt} {c : Cf} {k : Nat} {f : Addr} {fd : FuncData} (hW : WlOk W) (k1 : 1 ≤ k) (hk : FnsOk W k c) (hg : GlsOk W c) (F : FunD W.K (sN d.x) (sN d.x) (defArgs st) (defBody st) (defScope st) [] [] f fd) (hc : d.chk W.xs W.xf st = true) :
    FnOk W.P W.w W.K W.mg W.base (L2.CX W.P W.w) (k + 1 + 1) f fd d.ps (spOf W.K W.ca W.xf (d.fn c)) := by
  simp only [Def.chk, Bool.and_eq_true, decide_eq_true_eq] at hc
  obtain ⟨h1, h2, h3, h4⟩ := hc
  have S := scB_ok h1
  have lps : d.ps.length = d.np := by unfold Def.ps; rw [List.length_take]; unfold Def.names; rw [List.length_map]; omega
  have lN : d.N.length = d.names.length := by unfold Def.names; rw [List.length_map]
  refine F.ok S (fun vs H Q E h => ?_) fun cdv A outer s H vs Q E hr h => ?_
  · obtain ⟨Z, ds, P, sz, ha, _⟩ := h
    rw [ha.len, lps]
    exact h2
  · obtain ⟨Z, ds, P, sz, ha, h⟩ := h
    have hl : vs.length ≤ d.names.length := by
      have := ha.len
      have h2' : (d.fn c).io.length = d.np := h2
      omega
    obtain ⟨ev, he⟩ := startE_of ha
    refine ⟨semSs ⟨W.K, c, id, W.ca, W.xf, ⟨H, Z, P, fun _ => none⟩, fun cls dd _ H => E cls dd H⟩ d.body, sndSs d.body (k := k + 1) (N := d.names) (xs := W.xs) ?_ (takes_of rfl rfl rfl rfl) h4, ?_⟩
    · exact {
        x := {
          K := rfl
          N := rfl
          calm := rfl
          nd := S.nd
          room := hr
          fns := hk.mono (Nat.le_succ k)
          gls := hg
          blt := hW.blt
          fn := fun _ _ => rfl }
        kind := S.kind
        pass := PassesOwn.leaving
        exs := fun n hn => hW.exs _ k rfl rfl rfl rfl rfl rfl k1 hr n hn
        stk := rfl
        frm := rfl
        xc := hW.xc }
    · exact ⟨_, Z, _, ha.rs sz he hl, out_of (w := ⟨W.K, c, id, W.ca, W.xf, ⟨H, Z, P, fun _ => none⟩, fun cls dd _ H => E cls dd H⟩) (N := d.names) lN rfl rfl ha he h⟩
theorem FnsOk.put {k j : Nat} {c : Cf} {x : String} {F : Fn} {f : Addr} {fd : FuncData} {ps : List Str} (h : FnsOk W k c) (l : k ≤ j) (g : W.mg (sN x) = some (.ref f)) (kp : PySem.W.keepIn W.K (.ref f) = true) (b : Binds W.K fd ps [])
    (hF : FnOk W.P W.w W.K W.mg W.base (L2.CX W.P W.w) j f fd ps (spOf W.K W.ca W.xf F)) : FnsOk W j (c.put x F) := fun y G e => by
  unfold Cf.put at e
  simp only at e
  split at e
  · rename_i hy
    cases e
    subst hy
    exact ⟨f, fd, ps, g, kp, b, hF⟩
  · exact h.mono l y G e
theorem rec_ok {d : Def} {st : Stmt} {c : Cf} {k : Nat} {f : Addr} {fd : FuncData} (hW : WlOk W) (k1 : 1 ≤ k) (hk : FnsOk W k c) (hg : GlsOk W c) (F : FunD W.K (sN d.x) (sN d.x) (defArgs st) (defBody st) (defScope st) [] [] f fd) (hc : d.chk W.xs W.xf st = true)
    (g : W.mg (sN d.x) = some (.ref f)) (b : Binds W.K fd d.ps []) : ∀ n, FnOk W.P W.w W.K W.mg W.base (L2.CX W.P W.w) (k + 2 * n) f fd d.ps (spOf W.K W.ca W.xf (d.again c n))
  | 0 => ⟨fun vs H Q E ⟨_, _, _, _, _, h⟩ => h.elim, fun A outer s H args us vs Q E _ _ _ _ ⟨_, _, _, _, _, h⟩ => h.elim⟩
  | n + 1 => by
    have ih := rec_ok hW k1 hk hg F hc g b n
    exact def_ok (k := k + 2 * n) hW (by omega) (hk.put (Nat.le_add_right k (2 * n)) g F.kp b ih) hg F hc
/-- one def more -/
theorem step {d : Def} {st : Stmt} {c : Cf} {k : Nat} {f : Addr} {fd : FuncData} (hW : WlOk W) (k1 : 1 ≤ k) (hk : FnsOk W k c) (hg : GlsOk W c) (F : FunD W.K (sN d.x) (sN d.x) (defArgs st) (defBody st) (defScope st) [] [] f fd) (hc : d.chk W.xs W.xf st = true)
    (g : W.mg (sN d.x) = some (.ref f)) (b : Binds W.K fd d.ps []) : FnsOk W (k + 2 * d.cost) (d.add c) ∧ GlsOk W (d.add c) := by
  refine ⟨?_, hg⟩
  unfold Def.add Def.F Def.cost
  cases d.rc with
  | zero => exact hk.put (by omega) g F.kp b (def_ok hW k1 hk hg F hc)
  | succ n => exact hk.put (by omega) g F.kp b (rec_ok hW k1 hk hg F hc g b (n + 1))
/-- no own exception classes are needed -/
theorem xc_none {K : PySem.W.Frag} {mg : Str → Option Value} : XcOk K mg (fun _ => none) (fun _ => []) := ⟨fun _ h => absurd rfl h, fun _ _ e => (by cases e), fun _ _ e => (by cases e), fun _ _ e => (by cases e), fun _ _ _ _ e => (by cases e)⟩
/-- the law's promise -/
theorem law_sp {K : PySem.W.Frag} {ca : String → Option Addr} {xf : String → List String} {F : Fn} {n : Nat} (hn : n ≤ 1000) (hio : F.io = [false]) (h : ∀ ns : List Int, ns.length ≤ n → F.run [.dict [(.none, .list (ns.map PyData.int))]] = .ok (.v (.bool true)) []) :
    ∀ (H : Hp) (a : Addr) (ns : List Int), ns.length ≤ n → SqL K H a (ns.map V.int) → spOf K ca xf F [.ref a] H (fun v _ => v = .bl true) fun _ _ _ => False := by
  intro H a ns hl hS
  refine ⟨H, [.dict [(.none, .list (ns.map PyData.int))]], [], Same.refl H, ?_, ?_⟩
  · rw [hio]
    exact .sh (.scr hS (by rw [List.length_map]; exact Nat.le_of_lt (small1000 (by omega))) (Rps.ofInts ns)) (.nil _)
  · rw [h ns hl]
    intro x H' Z' _ _ nw
    cases nw
    rfl
theorem law_sp0 {K : PySem.W.Frag} {ca : String → Option Addr} {xf : String → List String} {F : Fn} {n : Nat} (hn : n ≤ 1000) (hio : F.io = [false]) (h : ∀ ns : List Int, ns.length ≤ n → F.run [.dict [(.none, .list (ns.map PyData.int))]] = .ok (.v (.bool true)) []) :
    ∀ (H : Hp) (a : Addr) (ns : List Int), ns.length ≤ n → Only H → SqL K H a (ns.map V.int) → (fun vs H Q _ => spOf K ca xf F vs H Q E0 : Sp) [.ref a] H (fun v _ => v = .bl true) fun _ _ _ => False := fun H a ns hl _ hS => law_sp hn hio h H a ns hl hS
theorem fn_cx0 {P : Program} {w : World} {K : PySem.W.Frag} {mg : Str → Option Value} {base : Heap} {k : Nat} {f : Addr} {fd : FuncData} {ps : List Str} {sp : Sp} (h : FnOk P w K mg base (L2.CX P w) k f fd ps sp) :
    FnOk P w K mg base CX0 k f fd ps (fun vs H Q _ => sp vs H Q E0) := by
  refine ⟨fun vs H Q E q => h.len vs H Q E0 q, fun A outer s H args us vs Q E hr e0 hb hv hs => ?_⟩
  refine codeAny_mono (h.run A outer s H args us vs Q E0 hr e0 hb hv hs) fun r s' q => ?_
  cases r with
  | ok r => cases r <;> exact q
  | error e =>
    obtain ⟨_, _, _, _, _, _, _, _, _, _, _, _, z⟩ := q
    exact z.elim
theorem look_mem {β : Type} {x : String} {b : β} : ∀ {l : List (String × β)}, l.lookup x = some b → (x, b) ∈ l
  | [], h => by simp at h
  | (y, c) :: r, h => by
    rw [List.lookup_cons] at h
    by_cases e : x = y
    · subst e
      simp at h
      subst h
      simp
    · have e' : (x == y) = false := by simp [e]
      rw [e'] at h
      exact List.mem_cons_of_mem _ (look_mem h)
theorem gls_int {consts : List (String × Int)} {G : String → Option Fn} (h : ∀ p ∈ consts, ∃ t, W.mg (sN p.1) = some (.int p.2 t)) : GlsOk W ⟨G, fun x => (consts.lookup x).map PyData.int⟩ := fun x d e => by
  obtain ⟨i, e1, rfl⟩ := Option.map_eq_some_iff.mp e
  obtain ⟨t, ht⟩ := h (x, i) (look_mem e1)
  exact ⟨.int i, _, ht, ⟨t, rfl⟩, fun Z => .int i⟩
/-! ### constants that are tuples -/
def dvOf : D → He.Dv
  | .int i => .int i
  | .str x => .str x
  | .bool b => .bl b
  | _ => .non
def flatC : D → Bool
  | .int _ => true
  | .str _ => true
  | .bool _ => true
  | .none => true
  | _ => false
theorem rps_dv {K : PySem.W.Frag} {Z : Hp} : ∀ {ds : List D}, ds.all flatC = true → Rps K Z ((ds.map dvOf).map (He.Dv.v K)) ds
  | [], _ => .nil
  | d :: ds, h => by
    simp only [List.all_cons, Bool.and_eq_true] at h
    refine .cons ?_ (rps_dv h.2)
    have h1 := h.1
    cases d <;> first | (simp [flatC] at h1; done) | constructor
abbrev tupsB (cT : List (String × List D)) (K : PySem.W.Frag) : Bool := cT.all fun t => He.eqO (PySem.W.nsIn K mainGlobals (sN t.1)) (some (some (.ref (He.ga K (sN t.1))))) && (He.tupB K (sN t.1) (t.2.map dvOf) && (t.2.all flatC && decide (t.2.length ≤ 1000)))
theorem gls_all {h : Heap} (X : W.K.In h) (Gm : h.Ns mainGlobals W.mg) {cI : List (String × Int)} {cT : List (String × List D)} {G : String → Option Fn} (hI : ∀ p ∈ cI, ∃ t, W.mg (sN p.1) = some (.int p.2 t)) (hT : tupsB cT W.K = true) :
    GlsOk W ⟨G, fun x => match cI.lookup x with
      | some i => some (.int i)
      | none => (cT.lookup x).map fun ds => .dict [(.none, .tuple ds)]⟩ := fun x d e => by
  simp only at e
  split at e
  · rename_i i e1
    cases e
    obtain ⟨t, ht⟩ := hI (x, i) (look_mem e1)
    exact ⟨.int i, _, ht, ⟨t, rfl⟩, fun Z => .int i⟩
  · obtain ⟨ds, e1, rfl⟩ := Option.map_eq_some_iff.mp e
    have q := List.all_eq_true.mp hT (x, ds) (look_mem e1)
    simp only [Bool.and_eq_true, decide_eq_true_eq] at q
    obtain ⟨q1, q2, q3, q4⟩ := q
    refine ⟨.ref (He.ga W.K (sN x)), _, PySem.W.mg_of X Gm (He.eqO_ok q1), rfl, fun Z => .ktup (He.tupB_ok q2 _) ?_ (rps_dv q3)⟩
    rw [List.length_map, List.length_map]
    exact Nat.le_of_lt (small1000 q4)
end
/-! ### the head's hook, with a further test of what stands behind the top -/
section
open He
def obsE (fa : List Fa) (fn : List DefD) (ex : PySem.W.Frag → Bool) (K : PySem.W.Frag) : AlD := ((obsD fa fn K).1 && ex K, (obsD fa fn K).2)
def SaysE (fa : List Fa) (fn : List DefD) (ex : PySem.W.Frag → Bool) (K : PySem.W.Frag) : Prop := obsE fa fn ex K = valD fn
def obsEG (n : Nat) (fa : List Fa) (fn : List DefD) (ex : PySem.W.Frag → Bool) (g : Addr → Option Obj) : AlD := obsE fa fn ex (frG g (asD g n))
def hookE (n : Nat) (fa : List Fa) (fn : List DefD) (ex : PySem.W.Frag → Bool) : PySem.W.Hook where
  α := AlD
  obs := fun s => obsEG n fa fn ex s.heap.get?
  val := fun _ => valD fn
  says := fun _ h => ∃ K : PySem.W.Frag, K.In h ∧ SaysE fa fn ex K
  of := fun _ _ e => ⟨_, frG_in, e⟩
  keeps := fun _ _ _ ⟨K, hK, c⟩ k => ⟨K, PySem.W.Frag.In.keeps hK k, c⟩
theorem obsEG_eq {n : Nat} {fa : List Fa} {fn : List DefD} {ex : PySem.W.Frag → Bool} {g : Addr → Option Obj} {s : Shared} (h : ∀ a, g a = s.heap.get? a) : obsEG n fa fn ex g = (hookE n fa fn ex).obs s := by
  have e : g = s.heap.get? := funext h
  rw [e] <;> rfl
theorem SaysE.both {fa : List Fa} {fn : List DefD} {ex : PySem.W.Frag → Bool} {K : PySem.W.Frag} (c : SaysE fa fn ex K) : SaysD fa fn K ∧ ex K = true := by
  have c1 : ((obsD fa fn K).1 && ex K) = true := by
    have q := congrArg (fun z : AlD => z.1) c
    exact q
  have c2 : (obsD fa fn K).2 = (valD fn).2 := by
    have q := congrArg (fun z : AlD => z.2) c
    exact q
  obtain ⟨h1, h2⟩ := Bool.and_eq_true_iff.mp c1
  exact ⟨Prod.ext h1 c2, h2⟩
end
end Bide

set_option autoImplicit false
set_option Elab.async false
set_option maxRecDepth 100000
set_option linter.all false
set_option maxHeartbeats 4000000
/-! Own exception classes with one field: what the head must find, the raising. -/
namespace Bide
open PySem L2 He

/-- an own exception class: its name, its field -/
abbrev Xc := String × String
/-! ### the class -/
def oexB (K : PySem.W.Frag) (C : Addr) : Bool := match K.lookup C with
  | some ⟨.type "type", _, .cls cd, sl⟩ => (match cd.mro, sl.toList with
    | .ref C' :: bm, [_, _, _, _, some (.builtin n), _] => decide (C' = C) && (decide (n = "ValueError.__new__") && (!cd.hasDel && (cd.hasDict && PySem.HandSPX.refsVE bm)))
    | _, _ => false)
  | _ => false
theorem oexB_ok {K : PySem.W.Frag} {C : Addr} (q : oexB K C = true) : ∃ nm q' N bs bm sn sub ab col dd k0 k1 k2 k3 k5, K.lookup C = some (excClassObj nm q' C N bs bm true sn sub ab col dd k0 k1 k2 k3 k5 "ValueError.__new__") ∧ PySem.HandSPX.refsVE bm = true := by
  unfold oexB at q
  split at q
  · rename_i dd cd sl ho
    split at q
    · rename_i C' bm k0 k1 k2 k3 n k5 hm hs
      simp only [Bool.and_eq_true, decide_eq_true_eq, Bool.not_eq_true'] at q
      obtain ⟨rfl, rfl, hdel, hdict, hv⟩ := q
      obtain ⟨nm, bs, mro, ns, qn, hd, sn, sub, ab, col, del⟩ := cd
      dsimp only at hm hdel hdict
      subst hm hdel hdict
      have hsl : sl = #[k0, k1, k2, k3, some (.builtin "ValueError.__new__"), k5] := by
        obtain ⟨l⟩ := sl
        simp only at hs
        rw [hs]
      subst hsl
      exact ⟨nm, qn, ns, bs, bm, sn, sub, ab, col, dd, k0, k1, k2, k3, k5, ho, hv⟩
    · cases q
  · cases q
def iniA (K : PySem.W.Frag) (x : String) : Addr := ma K (ga K (sN x)) "__init__"
/-- what the head must find of a class -/
def xcB (K : PySem.W.Frag) (c : Xc) : Bool :=
  decide (PySem.W.nsIn K mainGlobals (sN c.1) = some (some (.ref (ga K (sN c.1))))) && (oexB K (ga K (sN c.1)) && (decide (PySem.W.findIn K (.ref (ga K (sN c.1))) "__setattr__" = some (some (.builtin "object.__setattr__"))) &&
  (decide (PySem.W.subIn K (.ref (ga K (sN c.1))) (.type "BaseException") = some true) && (decide (PySem.W.typeIn K (.ref (ga K (sN c.1))) = some (.type "type")) && (PySem.W.keepIn K (.ref (ga K (sN c.1))) &&
  (decide (PySem.W.findIn K (.ref (ga K (sN c.1))) "__init__" = some (some (.ref (iniA K c.1)))) && (decide (PySem.W.typeIn K (.ref (iniA K c.1)) = some (.type "function")) && (xfB K (ga K (sN c.1)) && decide (PySem.W.findIn K (.ref (ga K (sN c.1))) (sN c.2) = some none)))))))))
structure XcF (K : PySem.W.Frag) (mg : Str → Option Value) (c : Xc) : Prop where
  g : mg (sN c.1) = some (.ref (ga K (sN c.1)))
  oex : OexC K (ga K (sN c.1))
  ini : PySem.W.findIn K (.ref (ga K (sN c.1))) "__init__" = some (some (.ref (iniA K c.1)))
  tI : PySem.W.typeIn K (.ref (iniA K c.1)) = some (.type "function")
  xf : XfC K (ga K (sN c.1))
  nof : PySem.W.findIn K (.ref (ga K (sN c.1))) (sN c.2) = some none
theorem xcB_ok {K : PySem.W.Frag} {h : Heap} {mg : Str → Option Value} (X : K.In h) (G : h.Ns mainGlobals mg) {c : Xc} (q : xcB K c = true) : XcF K mg c := by
  simp only [xcB, Bool.and_eq_true, decide_eq_true_eq] at q
  obtain ⟨h1, h2, h3, h4, h5, h6, h7, h8, h9, h10⟩ := q
  exact ⟨PySem.W.mg_of X G h1, ⟨oexB_ok h2, h3, h4, h5, h6⟩, h7, h8, xfB_ok h9, h10⟩
/-- which is which -/
def exmB (K : PySem.W.Frag) (cs : List Xc) : Bool := cs.all fun a => cs.all fun b => decide (PySem.W.exmOne K (.ref (ga K (sN a.1))) (.ref (ga K (sN b.1))) = some (decide (a.1 = b.1)))
def xcsB (cs : List Xc) (K : PySem.W.Frag) : Bool := cs.all (xcB K) && exmB K cs
def caOf (K : PySem.W.Frag) (cs : List Xc) (x : String) : Option Addr := if cs.any (fun c => decide (c.1 = x)) = true then some (ga K (sN x)) else none
def xfOf (cs : List Xc) (x : String) : List String := match cs.find? (fun c => decide (c.1 = x)) with
  | some c => [c.2]
  | none => []
theorem caOf_some {K : PySem.W.Frag} {cs : List Xc} {x : String} {C : Addr} (h : caOf K cs x = some C) : C = ga K (sN x) ∧ ∃ c ∈ cs, c.1 = x := by
  unfold caOf at h
  split at h
  · rename_i q
    cases h
    rw [List.any_eq_true] at q
    obtain ⟨c, hc, he⟩ := q
    exact ⟨rfl, c, hc, of_decide_eq_true he⟩
  · cases h
theorem xfOf_mem {cs : List Xc} {x f : String} (h : f ∈ xfOf cs x) : (x, f) ∈ cs := by
  unfold xfOf at h
  split at h
  · rename_i c hc
    have h1 := List.mem_of_find?_eq_some hc
    have h2 := List.find?_some hc
    simp only [List.mem_singleton] at h
    have : c.1 = x := of_decide_eq_true h2
    subst this h
    exact h1
  · cases h
theorem xc_ok {K : PySem.W.Frag} {h : Heap} {mg : Str → Option Value} (X : K.In h) (G : h.Ns mainGlobals mg) {cs : List Xc} (q : xcsB cs K = true) : XcOk K mg (caOf K cs) (xfOf cs) := by
  simp only [xcsB, Bool.and_eq_true, List.all_eq_true] at q
  obtain ⟨h1, h2⟩ := q
  have F : ∀ c ∈ cs, XcF K mg c := fun c hc => xcB_ok X G (h1 c hc)
  refine ⟨fun x hx => ?_, fun x C e => ?_, fun x C e => ?_, fun x C e f hf => ?_, fun x y C D e1 e2 => ?_⟩
  · cases hq : xfOf cs x with
    | nil => exact absurd hq hx
    | cons f r =>
      have hm := xfOf_mem (cs := cs) (x := x) (f := f) (by rw [hq]; simp)
      refine ⟨ga K (sN x), ?_⟩
      unfold caOf
      rw [if_pos (List.any_eq_true.mpr ⟨(x, f), hm, by simp⟩)]
  · obtain ⟨rfl, c, hc, rfl⟩ := caOf_some e
    exact (F c hc).g
  · obtain ⟨rfl, c, hc, rfl⟩ := caOf_some e
    exact (F c hc).xf
  · obtain ⟨rfl, _⟩ := caOf_some e
    exact (F _ (xfOf_mem hf)).nof
  · obtain ⟨rfl, c, hc, rfl⟩ := caOf_some e1
    obtain ⟨rfl, d, hd, rfl⟩ := caOf_some e2
    simp only [exmB, List.all_eq_true, decide_eq_true_eq] at h2
    exact h2 c hc d hd
/-! ### C(value) -/
/-- self.f = f: the only thing that the class's __init__ does -/
def iniSp (K : PySem.W.Frag) (f : String) : Sp := fun vs H Q _ => ∃ a C y, vs = [.ref a, y] ∧ OexC K C ∧ PySem.W.findIn K (.ref C) (sN f) = some none ∧ H a = some (exo a C none) ∧ ∀ dx, H dx = none → dx ≠ a → Q .non (upd (upd H dx (exd dx [(sN f, y)])) a (exo a C (some dx)))
def iniB (f : String) (st : Stmt) : Bool := scB [sN "self", sN f] [sN "self", sN f] (defScope st) && (match defBody st with
  | [.Assign [.Attribute (.Name x _) a _] (.Name y _) _] => isN x "self" && (isN a f && (isN y f && (vis (defScope st) (sN "self") && (vis (defScope st) (sN f) && (okName (sN "self") && okName (sN f))))))
  | _ => false)
section
variable {P : Program} {w : World} {K : PySem.W.Frag} {mg : Str → Option Value} {base : Heap}
theorem ini_ok {f : String} {st : Stmt} {k : Nat} {x q : Str} {fI : Addr} {fd : FuncData} (F : FunD K x q (defArgs st) (defBody st) (defScope st) [] [] fI fd) (hc : iniB f st = true) : FnOk P w K mg base (L2.CX P w) (k + 1) fI fd [sN "self", sN f] (iniSp K f) := by
  unfold iniB at hc
  obtain ⟨hc1, hc2⟩ := Bool.and_eq_true_iff.mp hc
  have S := scB_ok hc1
  refine F.ok S (fun vs H Q E h => ?_) fun cdv A outer s H vs Q E hr h => ?_
  · obtain ⟨a, C, y, rfl, _⟩ := h
    rfl
  · obtain ⟨a, C, y, rfl, T, hno, ha, h⟩ := h
    split at hc2
    · rename_i x1 p1 a1 p2 y1 p3 p4 hb
      simp only [Bool.and_eq_true] at hc2
      obtain ⟨e1, e2, e3, e4, e5, e6, e7⟩ := hc2
      cases isN_eq e1
      cases isN_eq e2
      cases isN_eq e3
      rw [hb]
      have v0 : ∀ pos : Pos, PE (cxOf (L2.CX P w) P w K mg base [sN "self", sN f] q (defScope st) fI cdv A outer s H E) (.Name (sN "self") pos) (tVar 0) := fun pos => rd_slot (N := [sN "self", sN f]) rfl (by unfold rdSlot; simp; exact ⟨e4, e6⟩)
      have v1 : ∀ pos : Pos, PE (cxOf (L2.CX P w) P w K mg base [sN "self", sN f] q (defScope st) fI cdv A outer s H E) (.Name (sN f) pos) (tVar 1) := fun pos => rd_slot (N := [sN "self", sN f]) rfl (by unfold rdSlot; simp; exact ⟨e5, e7⟩)
      refine ⟨_, pss_cons (ps_ost (v0 _) (v1 _)) pss_nil, ?_⟩
      exact ⟨y, rfl, .ref a, rfl, a, C, rfl, T, hno, .inl ⟨ha, fun dx hd hne => h dx hd hne⟩⟩
    · cases hc2
end
theorem cx_no {P : Program} {w : World} {st : List Env} {H : Hp} {s s' : Shared} {e : Value} (h : L2.CX P w st H s (fun _ _ _ => False) e s') : False := by
  obtain ⟨_, _, _, _, _, _, _, _, _, _, _, _, h⟩ := h
  exact h
/-- arguments, and what follows of them -/
def tMono (ta : TA) : TA := fun σ H Q' => ∃ Q : List V → Hp → Prop, ta σ H Q ∧ ∀ vs H1, Q vs H1 → Q' vs H1
theorem PA.mono {X : Cx} {es : List Expr} {ta : TA} (h : PA X es ta) : PA X es (tMono ta) :=
  ⟨fun pos pins s σ H Q' I ⟨Q, q, i⟩ => thn (h.run pos pins s σ H Q I q) fun us s1 ⟨vs, H1, I1, r1, q1⟩ => ⟨vs, H1, I1, r1, i vs H1 q1⟩⟩
/-- raising: the class is called with its value -/
theorem exs_ok {P : Program} {w : World} {K : PySem.W.Frag} {h : Heap} {mg : Str → Option Value} {base : Heap} (X : K.In h) (G : h.Ns mainGlobals mg) {cs : List Xc} (q : xcsB cs K = true)
    (hI : ∀ c ∈ cs, ∃ fd : FuncData, (∀ k, 1 ≤ k → FnOk P w K mg base (L2.CX P w) k (iniA K c.1) fd [sN "self", sN c.2] (iniSp K c.2)) ∧ Binds K fd [sN "self", sN c.2] []) (hdb : ∀ c ∈ cs, (sN c.1 == ("__debug__" : Str)) = false) :
    XsOk ⟨P, w, K, mg, base, caOf K cs, xfOf cs, cs.map (·.1)⟩ := by
  intro Y k hP hw hK hmg hba hcalm k1 hr n hn e es ta p pos hg hpa hst hany hlen
  obtain ⟨c0, hc0, hn0⟩ := List.mem_map.mp hn
  obtain ⟨f, hf⟩ : ∃ f, xfOf cs n = [f] := by
    unfold xfOf
    cases hq : cs.find? (fun c => decide (c.1 = n)) with
    | some c => exact ⟨c.2, rfl⟩
    | none => exact absurd (List.find?_eq_none.mp hq c0 hc0) (by simp [hn0])
  have hm := xfOf_mem (cs := cs) (x := n) (f := f) (by rw [hf]; simp)
  have q' := q
  simp only [xcsB, Bool.and_eq_true, List.all_eq_true] at q'
  have F := xcB_ok X G (q'.1 _ hm)
  obtain ⟨fd, hF, hB⟩ := hI _ hm
  have hdb' := hdb _ hm
  obtain ⟨prog, yw, yK, ymg⟩ : Y.prog = P ∧ Y.w = w ∧ Y.K = K ∧ Y.mg = mg := ⟨hP, hw, hK, hmg⟩
  have F1 : FnOk Y.prog Y.w Y.K Y.mg Y.base (L2.CX Y.prog Y.w) k (iniA K n) fd [sN "self", sN f] (iniSp K f) := by
    rw [hP, hw, hK, hmg, hba]
    exact hF k k1
  have pk := pmk_oex (X := Y) (CX := L2.CX Y.prog Y.w) (x := sN n) (C := ga K (sN n)) (fI := iniA K n) (k := k) (fd := fd) (ps := [sN "self", sN f]) (sp := iniSp K f) (ds := []) (dvs := []) (e := e) (es := es) (ta := tMono ta) (p := p) (pos := pos)
    (by rw [hK]; exact F.oex) (by rw [hK]; exact F.ini) (by rw [hK]; exact F.tI) F1 hr (by rw [hK]; exact hB) .nil (fun _ _ _ _ _ _ _ z => (cx_no z).elim) hg (by rw [hmg]; exact F.g) (PA.mono hpa) hdb' hst hany
  intro pins s σ H Q I ht
  refine pk pins s σ H Q I ⟨_, ht, fun vs H1 ⟨Z, ds, sz, rp, hl, hq⟩ => ?_⟩
  have hl1 : ds.length = 1 := by rw [hl]; show (xfOf cs n).length = 1; rw [hf]; rfl
  obtain ⟨d1, rfl⟩ := List.length_eq_one_iff.mp hl1
  have hv : vs.length = 1 := by rw [rp.length]; rfl
  obtain ⟨y, rfl⟩ := List.length_eq_one_iff.mp hv
  cases rp with
  | cons r rr =>
    refine ⟨by simp, fun a ha => ⟨a, ga K (sN n), y, rfl, F.oex, F.nof, upd_same, fun dx hd hne => ⟨rfl, dx, [(sN f, y)], upd_same, ?_, ?_, ?_⟩⟩⟩
    · rw [upd_ne hne, upd_same]
    · rw [upd_ne hne] at hd
      exact hd
    · rw [upd_ne hne] at hd
      refine hq _ _ _ (fun p o ho => ?_) ⟨ga K (sN n), dx, [(sN f, y)], ?_, rfl, rfl, upd_same, fun i nm y' hi hy => ?_⟩
      · have hpa' : p ≠ a := fun e => by rw [e, ha] at ho; cases ho
        have hpd : p ≠ dx := fun e => by rw [e, hd] at ho; cases ho
        rw [upd_ne hpd, del_ne hpa', upd_ne hpa', upd_ne hpd, upd_ne hpa']
        exact ho
      · show caOf K cs n = _
        unfold caOf
        rw [if_pos (List.any_eq_true.mpr ⟨(n, f), hm, by simp⟩)]
      · have hi' : (xfOf cs n)[i]? = some nm := hi
        rw [hf] at hi'
        cases i with
        | zero =>
          simp only [List.getElem?_cons_zero, Option.some.injEq] at hi' hy
          subst hi' hy
          exact ⟨y, by simp [List.lookup], r⟩
        | succ i => simp at hi'
end Bide

set_option autoImplicit false
set_option maxRecDepth 100000
/-! The core texts of defs that many laws name (printed by gen.py). -/
namespace Bide
open PySem
def D_is_between : Def := ⟨"is_between", ["value", "low", "high"], 3, [false, false, false], 0,
  (.cons (.ret (.and (.isi (.var 0) .int) (.and (.not (.isi (.var 0) .bool)) (.chn .le .le (.var 1) (.var 0) (.var 2)))))
  .nil)⟩
def D_is_side : Def := ⟨"is_side", ["value"], 1, [false], 0,
  (.cons (.ret (.or (.cmp .isN (.var 0) .non) (.call "is_between" (.cons (.var 0) (.cons (.bin .sub (.int 0) (.glo "FARTHEST")) (.cons (.glo "FARTHEST") .nil))))))
  .nil)⟩
def D_is_rule : Def := ⟨"is_rule", ["value", "size", "start", "end", "low", "high"], 2, [false, false], 0,
  (.cons (.ife (.or (.not (.val (.isi (.var 0) .tuple))) (.val (.cmp .ne (.blt .len (.cons (.var 0) .nil)) (.int 4)))) (.cons (.ret (.bl false))
    .nil) .nil)
  (.cons (.unp [2, 3, 4, 5] (.var 0))
  (.cons (.ife (.or (.not (.val (.call "is_between" (.cons (.var 2) (.cons (.int 0) (.cons (.bin .sub (.var 1) (.int 1)) .nil)))))) (.or (.not (.val (.call "is_between" (.cons (.var 3) (.cons (.int 0) (.cons (.bin .sub (.var 1) (.int 1)) .nil)))))) (.val (.cmp .eq (.var 2) (.var 3))))) (.cons (.ret (.bl false))
    .nil) .nil)
  (.cons (.ret (.and (.call "is_side" (.cons (.var 4) .nil)) (.and (.call "is_side" (.cons (.var 5) .nil)) (.or (.cmp .notN (.var 4) .non) (.cmp .notN (.var 5) .non)))))
  .nil))))⟩
def D_is_net : Def := ⟨"is_net", ["value", "rule"], 1, [false], 0,
  (.cons (.ife (.or (.not (.val (.isi (.var 0) .tuple))) (.or (.val (.cmp .ne (.blt .len (.cons (.var 0) .nil)) (.int 2))) (.not (.val (.call "is_between" (.cons (.idx (.var 0) (.int 0)) (.cons (.int 1) (.cons (.glo "MOST_EVENTS") .nil)))))))) (.cons (.ret (.bl false))
    .nil) .nil)
  (.cons (.ife (.or (.not (.val (.isi (.idx (.var 0) (.int 1)) .tuple))) (.val (.cmp .gt (.blt .len (.cons (.idx (.var 0) (.int 1)) .nil)) (.glo "MOST_RULES")))) (.cons (.ret (.bl false))
    .nil) .nil)
  (.cons (.ret (.blt .all (.cons (.lc [1] [1] false (.seq (.idx (.var 0) (.int 1))) .no (.call "is_rule" (.cons (.var 1) (.cons (.idx (.var 0) (.int 0)) .nil)))) .nil)))
  .nil)))⟩
def D_excess_of : Def := ⟨"excess_of", ["rule", "times", "far", "start", "end", "low", "high"], 2, [false, false], 0,
  (.cons (.unp [3, 4, 5, 6] (.var 0))
  (.cons (.asg 2 (.bin .sub (.idx (.var 1) (.var 4)) (.idx (.var 1) (.var 3))))
  (.cons (.ife (.and (.val (.cmp .notN (.var 5) .non)) (.val (.cmp .lt (.var 2) (.var 5)))) (.cons (.ret (.bin .sub (.var 2) (.var 5)))
    .nil) .nil)
  (.cons (.ife (.and (.val (.cmp .notN (.var 6) .non)) (.val (.cmp .gt (.var 2) (.var 6)))) (.cons (.ret (.bin .sub (.var 2) (.var 6)))
    .nil) .nil)
  (.cons (.ret (.int 0))
  .nil)))))⟩
def D_all_hold : Def := ⟨"all_hold", ["net", "times", "rule"], 2, [false, false], 0,
  (.cons (.ret (.blt .all (.cons (.lc [2] [2] false (.seq (.idx (.var 0) (.int 1))) .no (.cmp .eq (.call "excess_of" (.cons (.var 2) (.cons (.var 1) .nil))) (.int 0))) .nil)))
  .nil)⟩
def D_law_stream : Def := ⟨"_law_stream", ["_law_script"], 1, [false], 0,
  (.cons (.ret (.lst (.cons (.blt .list (.cons (.var 0) .nil)) (.cons (.int 0) (.cons (.int 0) .nil)))))
  .nil)⟩
def D_law_next : Def := ⟨"_law_next", ["_law_stream_here", "_law_many", "_law_digit", "_law_k", "_law_cell"], 2, [true, false], 0,
  (.cons (.ife (.val (.cmp .eq (.idx (.var 0) (.int 1)) (.int 0))) (.cons (.asg 3 (.idx (.var 0) (.int 2)))
    (.cons (.asg 4 (.bin .add (.int 7) (.var 3)))
    (.cons (.ife (.val (.cmp .lt (.var 3) (.blt .len (.cons (.idx (.var 0) (.int 0)) .nil)))) (.cons (.asg 4 (.blt .abs (.cons (.idx (.idx (.var 0) (.int 0)) (.var 3)) .nil)))
      .nil) .nil)
    (.cons (.ife (.val (.cmp .lt (.var 4) (.bin .pow (.int 10) (.int 18)))) (.cons (.asg 4 (.bin .mod (.blt .int (.cons (.bin .add (.bin .add (.bin .mul (.var 4) (.int 48271)) (.bin .mul (.var 3) (.int 69621))) (.int 11)) .nil)) (.int 2147483647)))
      (.cons (.asg 4 (.bin .add (.bin .mul (.bin .mod (.blt .int (.cons (.bin .add (.bin .mul (.var 4) (.int 16807)) (.int 13)) .nil)) (.int 2147483647)) (.int 65537)) (.var 4)))
      .nil)) .nil)
    (.cons (.sti 0 (.int 1) (.var 4))
    (.cons (.sti 0 (.int 2) (.bin .add (.var 3) (.int 1)))
    .nil)))))) .nil)
  (.cons (.asg 2 (.bin .mod (.blt .int (.cons (.idx (.var 0) (.int 1)) .nil)) (.var 1)))
  (.cons (.sti 0 (.int 1) (.bin .fdiv (.idx (.var 0) (.int 1)) (.var 1)))
  (.cons (.ret (.var 2))
  .nil))))⟩
end Bide

set_option autoImplicit false
set_option maxRecDepth 100000
/-! The core texts of defs that many laws name (printed by gen.py). -/
namespace Bide
open PySem
def D_edges_of : Def := ⟨"edges_of", ["net", "found", "at", "rule", "start", "end", "low", "high"], 1, [false], 0,
  (.cons (.asg 1 (.lst .nil))
  (.cons (.forr [2, 3] true (.enum (.idx (.var 0) (.int 1))) (.cons (.unp [4, 5, 6, 7] (.var 3))
    (.cons (.ife (.val (.cmp .notN (.var 7) .non)) (.cons (.xpr (.mth1 .append 1 (.tup (.cons (.tup (.cons (.var 2) (.cons (.str "high") .nil))) (.cons (.var 4) (.cons (.var 5) (.cons (.var 7) .nil)))))))
      .nil) .nil)
    (.cons (.ife (.val (.cmp .notN (.var 6) .non)) (.cons (.xpr (.mth1 .append 1 (.tup (.cons (.tup (.cons (.var 2) (.cons (.str "low") .nil))) (.cons (.var 5) (.cons (.var 4) (.cons (.bin .sub (.int 0) (.var 6)) .nil)))))))
      .nil) .nil)
    .nil))))
  (.cons (.ret (.var 1))
  .nil)))⟩
def D_longer_walks : Def := ⟨"longer_walks", ["net", "walks", "found", "start", "here", "length", "walk", "edge", "near", "far", "weight"], 2, [false, false], 0,
  (.cons (.asg 2 (.dnew true))
  (.cons (.fork [3, 4] true 1 (.cons (.unp [5, 6] (.dget (.var 1) (.tup (.cons (.var 3) (.cons (.var 4) .nil)))))
    (.cons (.forr [7, 8, 9, 10] true (.seq (.call "edges_of" (.cons (.var 0) .nil))) (.cons (.ife (.and (.val (.cmp .eq (.var 8) (.var 4))) (.or (.val (.cmp .notin (.tup (.cons (.var 3) (.cons (.var 9) .nil))) (.var 2))) (.val (.cmp .lt (.bin .add (.var 5) (.var 10)) (.idx (.dget (.var 2) (.tup (.cons (.var 3) (.cons (.var 9) .nil)))) (.int 0)))))) (.cons (.std 2 (.tup (.cons (.var 3) (.cons (.var 9) .nil))) (.tup (.cons (.bin .add (.var 5) (.var 10)) (.cons (.bin .add (.var 6) (.tup (.cons (.var 7) .nil))) .nil))))
        .nil) .nil)
      .nil))
    .nil)))
  (.cons (.ret (.var 2))
  .nil)))⟩
def D_first_round : Def := ⟨"first_round", ["net", "walks", "turn", "event"], 1, [false], 0,
  (.cons (.asg 1 (.dc true [3] [3] false (.rng (.idx (.var 0) (.int 0))) .no (.tup (.cons (.var 3) (.cons (.var 3) .nil))) (.tup (.cons (.int 0) (.cons (.tup .nil) .nil)))))
  (.cons (.forr [2] false (.rng (.idx (.var 0) (.int 0))) (.cons (.asg 1 (.call "longer_walks" (.cons (.var 0) (.cons (.var 1) .nil))))
    (.cons (.forr [3] false (.rng (.idx (.var 0) (.int 0))) (.cons (.ife (.and (.val (.cmp .inn (.tup (.cons (.var 3) (.cons (.var 3) .nil))) (.var 1))) (.val (.cmp .lt (.idx (.dget (.var 1) (.tup (.cons (.var 3) (.cons (.var 3) .nil)))) (.int 0)) (.int 0)))) (.cons (.ret (.idx (.dget (.var 1) (.tup (.cons (.var 3) (.cons (.var 3) .nil)))) (.int 1)))
        .nil) .nil)
      .nil))
    .nil)))
  (.cons (.ret .non)
  .nil)))⟩
def D_shortest_walks : Def := ⟨"shortest_walks", ["net", "best", "walks", "turn", "pair", "event"], 1, [false], 0,
  (.cons (.asg 1 (.dc true [5] [5] false (.rng (.idx (.var 0) (.int 0))) .no (.tup (.cons (.var 5) (.cons (.var 5) .nil))) (.tup (.cons (.int 0) (.cons (.tup .nil) .nil)))))
  (.cons (.asg 2 (.var 1))
  (.cons (.forr [3] false (.rng (.bin .sub (.idx (.var 0) (.int 0)) (.int 1))) (.cons (.asg 2 (.call "longer_walks" (.cons (.var 0) (.cons (.var 2) .nil))))
    (.cons (.fork [4] false 2 (.cons (.ife (.or (.val (.cmp .notin (.var 4) (.var 1))) (.val (.cmp .lt (.idx (.dget (.var 2) (.var 4)) (.int 0)) (.idx (.dget (.var 1) (.var 4)) (.int 0))))) (.cons (.asg 1 (.call "with_walk" (.cons (.var 1) (.cons (.var 4) (.cons (.dget (.var 2) (.var 4)) .nil)))))
        .nil) .nil)
      .nil))
    .nil)))
  (.cons (.ret (.var 1))
  .nil))))⟩
def D_with_walk : Def := ⟨"with_walk", ["best", "pair", "value", "found", "key"], 3, [false, false, false], 0,
  (.cons (.asg 3 (.dck true [4] [4] false 0 .no (.var 4) (.dget (.var 0) (.var 4))))
  (.cons (.std 3 (.var 1) (.var 2))
  (.cons (.ret (.var 3))
  .nil)))⟩
def D_bounds_of : Def := ⟨"bounds_of", ["net", "walks", "size", "i", "j"], 1, [false], 0,
  (.cons (.ife (.val (.cmp .notN (.call "first_round" (.cons (.var 0) .nil)) .non)) (.cons (.ret .non)
    .nil) .nil)
  (.cons (.asg 1 (.call "shortest_walks" (.cons (.var 0) .nil)))
  (.cons (.asg 2 (.idx (.var 0) (.int 0)))
  (.cons (.ret (.lc [3] [3] false (.rng (.var 2)) .no (.lc [4] [4] false (.rng (.var 2)) .no (.ife (.val (.cmp .inn (.tup (.cons (.var 3) (.cons (.var 4) .nil))) (.var 1))) (.idx (.dget (.var 1) (.tup (.cons (.var 3) (.cons (.var 4) .nil)))) (.int 0)) .non))))
  .nil))))⟩
end Bide

set_option autoImplicit false
set_option maxRecDepth 100000
/-! The core texts of defs that many laws name (printed by gen.py). -/
namespace Bide
open PySem
end Bide

set_option autoImplicit false
set_option maxRecDepth 100000
/-! The core texts of defs that many laws name (printed by gen.py). -/
namespace Bide
open PySem
def D_is_integer : Def := ⟨"is_integer", ["value"], 1, [false], 0,
  (.cons (.ret (.and (.isi (.var 0) .int) (.not (.isi (.var 0) .bool))))
  .nil)⟩
end Bide

set_option autoImplicit false
set_option maxRecDepth 100000
/-! The core texts of defs that many laws name (printed by gen.py). -/
namespace Bide
open PySem
def D_is_event_b : Def := ⟨"is_event", ["net", "value"], 2, [false, false], 0,
  (.cons (.ret (.and (.call "is_integer" (.cons (.var 1) .nil)) (.chn .le .lt (.int 0) (.var 1) (.idx (.var 0) (.int 0)))))
  .nil)⟩
end Bide

set_option autoImplicit false
set_option maxRecDepth 100000
/-! The core texts of defs that many laws name (printed by gen.py). -/
namespace Bide
open PySem
def D_can_keep : Def := ⟨"can_keep", ["net"], 1, [false], 0,
  (.cons (.xpr (.call "check_net" (.cons (.var 0) .nil)))
  (.cons (.ret (.cmp .isN (.call "first_round" (.cons (.var 0) .nil)) .non))
  .nil))⟩
def D_tight : Def := ⟨"tight", ["net", "row"], 1, [false], 0,
  (.cons (.xpr (.call "check_kept" (.cons (.var 0) .nil)))
  (.cons (.ret (.blt .tuple (.cons (.lc [1] [1] false (.seq (.call "bounds_of" (.cons (.var 0) .nil))) .no (.blt .tuple (.cons (.var 1) .nil))) .nil)))
  .nil))⟩
def D_are_heights : Def := ⟨"are_heights", ["net", "value", "one"], 2, [false, false], 0,
  (.cons (.ret (.and (.isi (.var 1) .tuple) (.and (.cmp .eq (.blt .len (.cons (.var 1) .nil)) (.idx (.var 0) (.int 0))) (.blt .all (.cons (.lc [2] [2] false (.seq (.var 1)) .no (.call "is_integer" (.cons (.var 2) .nil))) .nil)))))
  .nil)⟩
def D_are_right : Def := ⟨"are_right", ["net", "value"], 2, [false, false], 0,
  (.cons (.ret (.and (.call "are_heights" (.cons (.var 0) (.cons (.var 1) .nil))) (.call "all_hold" (.cons (.var 0) (.cons (.var 1) .nil)))))
  .nil)⟩
def D_shows_kept : Def := ⟨"shows_kept", ["net", "value"], 2, [false, false], 0,
  (.cons (.xpr (.call "check_net" (.cons (.var 0) .nil)))
  (.cons (.ret (.call "are_right" (.cons (.var 0) (.cons (.var 1) .nil))))
  .nil))⟩
end Bide

set_option autoImplicit false
set_option maxRecDepth 100000
/-! The core texts of defs that many laws name (printed by gen.py). -/
namespace Bide
open PySem
end Bide

set_option autoImplicit false
set_option maxRecDepth 100000
/-! The core texts of defs that many laws name (printed by gen.py). -/
namespace Bide
open PySem
def D_edge_of : Def := ⟨"edge_of", ["net", "value", "start", "end", "low", "high"], 2, [false, false], 0,
  (.cons (.ife (.or (.not (.val (.isi (.var 1) .tuple))) (.or (.val (.cmp .ne (.blt .len (.cons (.var 1) .nil)) (.int 2))) (.not (.val (.call "is_between" (.cons (.idx (.var 1) (.int 0)) (.cons (.int 0) (.cons (.bin .sub (.blt .len (.cons (.idx (.var 0) (.int 1)) .nil)) (.int 1)) .nil)))))))) (.cons (.ret .non)
    .nil) .nil)
  (.cons (.ife (.or (.not (.val (.isi (.idx (.var 1) (.int 1)) .str))) (.val (.cmp .notin (.idx (.var 1) (.int 1)) (.glo "SIDES")))) (.cons (.ret .non)
    .nil) .nil)
  (.cons (.unp [2, 3, 4, 5] (.idx (.idx (.var 0) (.int 1)) (.idx (.var 1) (.int 0))))
  (.cons (.ife (.val (.cmp .eq (.idx (.var 1) (.int 1)) (.str "high"))) (.cons (.ret (.ife (.val (.cmp .isN (.var 5) .non)) .non (.tup (.cons (.var 2) (.cons (.var 3) (.cons (.var 5) .nil))))))
    .nil) .nil)
  (.cons (.ret (.ife (.val (.cmp .isN (.var 4) .non)) .non (.tup (.cons (.var 3) (.cons (.var 2) (.cons (.bin .sub (.int 0) (.var 4)) .nil))))))
  .nil)))))⟩
def D_walk_end : Def := ⟨"walk_end", ["net", "start", "walk", "here", "value", "edge"], 3, [false, false, false], 0,
  (.cons (.ife (.not (.val (.isi (.var 2) .tuple))) (.cons (.ret .non)
    .nil) .nil)
  (.cons (.asg 3 (.var 1))
  (.cons (.forr [4] false (.seq (.var 2)) (.cons (.asg 5 (.call "edge_of" (.cons (.var 0) (.cons (.var 4) .nil))))
    (.cons (.ife (.or (.val (.cmp .isN (.var 5) .non)) (.val (.cmp .ne (.idx (.var 5) (.int 0)) (.var 3)))) (.cons (.ret .non)
      .nil) .nil)
    (.cons (.asg 3 (.idx (.var 5) (.int 1)))
    .nil))))
  (.cons (.ret (.var 3))
  .nil))))⟩
def D_length_of : Def := ⟨"length_of", ["net", "walk", "value"], 2, [false, false], 0,
  (.cons (.ret (.blt .sum (.cons (.lc [2] [2] false (.seq (.var 1)) .no (.idx (.call "edge_of" (.cons (.var 0) (.cons (.var 2) .nil))) (.int 2))) .nil)))
  .nil)⟩
end Bide

set_option autoImplicit false
set_option maxRecDepth 100000
/-! The core texts of defs that many laws name (printed by gen.py). -/
namespace Bide
open PySem
def D_told_round : Def := ⟨"told_round", ["net"], 1, [false], 0,
  (.cons (.xpr (.call "check_net" (.cons (.var 0) .nil)))
  (.cons (.ret (.call "first_round" (.cons (.var 0) .nil)))
  .nil))⟩
def D_heights_of : Def := ⟨"heights_of", ["net", "bounds", "heights", "event", "known", "other", "number"], 1, [false], 0,
  (.cons (.asg 1 (.call "bounds_of" (.cons (.var 0) .nil)))
  (.cons (.asg 2 (.lst .nil))
  (.cons (.forr [3] false (.rng (.idx (.var 0) (.int 0))) (.cons (.asg 4 (.lc [5] [5] false (.rng (.idx (.var 0) (.int 0))) .no (.idx (.idx (.var 1) (.var 5)) (.var 3))))
    (.cons (.xpr (.mth1 .append 2 (.blt .min1 (.cons (.lc [6] [6] false (.seq (.var 4)) (.so (.val (.cmp .notN (.var 6) .non))) (.var 6)) .nil))))
    .nil)))
  (.cons (.ret (.blt .tuple (.cons (.var 2) .nil)))
  .nil))))⟩
def D_some_heights : Def := ⟨"some_heights", ["net"], 1, [false], 0,
  (.cons (.xpr (.call "check_net" (.cons (.var 0) .nil)))
  (.cons (.ret (.ife (.val (.cmp .notN (.call "first_round" (.cons (.var 0) .nil)) .non)) .non (.call "heights_of" (.cons (.var 0) .nil))))
  .nil))⟩
end Bide

set_option autoImplicit false
set_option maxRecDepth 100000
/-! The core texts of defs that many laws name (printed by gen.py). -/
namespace Bide
open PySem
end Bide

set_option autoImplicit false
set_option maxRecDepth 100000
/-! The core texts of defs that many laws name (printed by gen.py). -/
namespace Bide
open PySem
def D_check_kept_X : Def := ⟨"check_kept", ["net"], 1, [false], 0,
  (.cons (.xpr (.call "check_net" (.cons (.var 0) .nil)))
  (.cons (.ife (.val (.cmp .notN (.call "first_round" (.cons (.var 0) .nil)) .non)) (.cons (.rse "NotPossible" (.cons (.str "net") .nil))
    .nil) .nil)
  .nil))⟩
end Bide

set_option autoImplicit false
set_option maxRecDepth 100000
/-! The core texts of defs that many laws name (printed by gen.py). -/
namespace Bide
open PySem
end Bide

set_option autoImplicit false
set_option maxRecDepth 100000
/-! The core texts of defs that many laws name (printed by gen.py). -/
namespace Bide
open PySem
end Bide

set_option autoImplicit false
set_option maxRecDepth 100000
/-! The core texts of defs that many laws name (printed by gen.py). -/
namespace Bide
open PySem
def D_is_set : Def := ⟨"is_set", ["net", "value", "at", "event"], 2, [false, false], 0,
  (.cons (.ife (.or (.not (.val (.isi (.var 1) .tuple))) (.not (.val (.blt .all (.cons (.lc [3] [3] false (.seq (.var 1)) .no (.call "is_event" (.cons (.var 0) (.cons (.var 3) .nil)))) .nil))))) (.cons (.ret (.bl false))
    .nil) .nil)
  (.cons (.ret (.blt .all (.cons (.lc [2] [2] false (.rng (.bin .sub (.blt .len (.cons (.var 1) .nil)) (.int 1))) .no (.cmp .lt (.idx (.var 1) (.var 2)) (.idx (.var 1) (.bin .add (.var 2) (.int 1))))) .nil)))
  .nil))⟩
end Bide

set_option autoImplicit false
set_option maxRecDepth 100000
/-! The core texts of defs that many laws name (printed by gen.py). -/
namespace Bide
open PySem
end Bide

set_option autoImplicit false
set_option maxRecDepth 100000
/-! The core texts of defs that many laws name (printed by gen.py). -/
namespace Bide
open PySem
end Bide

set_option autoImplicit false
set_option maxRecDepth 100000
/-! The core texts of defs that many laws name (printed by gen.py). -/
namespace Bide
open PySem
end Bide

set_option autoImplicit false
set_option maxRecDepth 100000
/-! The core texts of defs that many laws name (printed by gen.py). -/
namespace Bide
open PySem
end Bide

set_option autoImplicit false
set_option Elab.async false
set_option maxRecDepth 100000
set_option linter.all false
set_option maxHeartbeats 0
namespace Bide
open PySem
def D_check_net_k15 : Def := ⟨"check_net", ["net"], 1, [false], 0,
  (.cons (.ife (.not (.val (.call "is_net" (.cons (.var 0) .nil)))) (.cons (.rse "BadValue" (.cons (.str "net") .nil))
    .nil) .nil)
  .nil)⟩
def D_shows_round : Def := ⟨"shows_round", ["net", "value", "starts", "event"], 2, [false, false], 0,
  (.cons (.xpr (.call "check_net" (.cons (.var 0) .nil)))
  (.cons (.ife (.or (.not (.val (.isi (.var 1) .tuple))) (.not (.val (.var 1)))) (.cons (.ret (.bl false))
    .nil) .nil)
  (.cons (.asg 2 (.lc [3] [3] false (.rng (.idx (.var 0) (.int 0))) (.so (.val (.cmp .eq (.call "walk_end" (.cons (.var 0) (.cons (.var 3) (.cons (.var 1) .nil)))) (.var 3)))) (.var 3)))
  (.cons (.ret (.and (.cmp .ne (.var 2) (.lst .nil)) (.cmp .lt (.call "length_of" (.cons (.var 0) (.cons (.var 1) .nil))) (.int 0))))
  .nil))))⟩
def D_check_two : Def := ⟨"check_two", ["net", "start", "end"], 3, [false, false, false], 0,
  (.cons (.xpr (.call "check_net" (.cons (.var 0) .nil)))
  (.cons (.ife (.not (.val (.call "is_event" (.cons (.var 0) (.cons (.var 1) .nil))))) (.cons (.rse "BadValue" (.cons (.str "start") .nil))
    .nil) .nil)
  (.cons (.ife (.not (.val (.call "is_event" (.cons (.var 0) (.cons (.var 2) .nil))))) (.cons (.rse "BadValue" (.cons (.str "end") .nil))
    .nil) .nil)
  .nil)))⟩
def D_pulled : Def := ⟨"pulled", ["net", "start", "bounds", "base", "known", "lift", "event", "heights", "other"], 2, [false, false], 0,
  (.cons (.asg 2 (.call "bounds_of" (.cons (.var 0) .nil)))
  (.cons (.asg 3 (.call "heights_of" (.cons (.var 0) .nil)))
  (.cons (.asg 4 (.lc [6] [6] false (.rng (.idx (.var 0) (.int 0))) (.so (.val (.cmp .notN (.idx (.idx (.var 2) (.var 1)) (.var 6)) .non))) (.var 6)))
  (.cons (.asg 5 (.blt .max1 (.cons (.lc [6] [6] false (.seq (.var 4)) .no (.bin .sub (.bin .sub (.idx (.var 3) (.var 6)) (.idx (.var 3) (.var 1))) (.idx (.idx (.var 2) (.var 1)) (.var 6)))) .nil)))
  (.cons (.forr [6] false (.rng (.idx (.var 0) (.int 0))) (.cons (.ife (.val (.cmp .notin (.var 6) (.var 4))) (.cons (.forr [8] false (.seq (.var 4)) (.cons (.ife (.val (.cmp .notN (.idx (.idx (.var 2) (.var 6)) (.var 8)) .non)) (.cons (.asg 5 (.blt .max2 (.cons (.var 5) (.cons (.bin .sub (.bin .sub (.idx (.idx (.var 2) (.var 1)) (.var 8)) (.idx (.idx (.var 2) (.var 6)) (.var 8))) (.bin .sub (.idx (.var 3) (.var 6)) (.idx (.var 3) (.var 1)))) .nil))))
          .nil) .nil)
        .nil))
      .nil) .nil)
    .nil))
  (.cons (.asg 7 (.lst .nil))
  (.cons (.forr [6] false (.rng (.idx (.var 0) (.int 0))) (.cons (.ife (.val (.cmp .inn (.var 6) (.var 4))) (.cons (.xpr (.mth1 .append 7 (.idx (.idx (.var 2) (.var 1)) (.var 6))))
      .nil) (.cons (.xpr (.mth1 .append 7 (.bin .add (.bin .sub (.idx (.var 3) (.var 6)) (.idx (.var 3) (.var 1))) (.var 5))))
      .nil))
    .nil))
  (.cons (.ret (.blt .tuple (.cons (.var 7) .nil)))
  .nil))))))))⟩
def D_bound_evidence : Def := ⟨"bound_evidence", ["net", "start", "end", "walks", "event"], 3, [false, false, false], 0,
  (.cons (.xpr (.call "check_two" (.cons (.var 0) (.cons (.var 1) (.cons (.var 2) .nil)))))
  (.cons (.xpr (.call "check_kept" (.cons (.var 0) .nil)))
  (.cons (.asg 3 (.call "shortest_walks" (.cons (.var 0) .nil)))
  (.cons (.ife (.val (.cmp .inn (.tup (.cons (.var 1) (.cons (.var 2) .nil))) (.var 3))) (.cons (.ret (.tup (.cons (.idx (.dget (.var 3) (.tup (.cons (.var 1) (.cons (.var 2) .nil)))) (.int 1)) (.cons (.call "pulled" (.cons (.var 0) (.cons (.var 1) .nil))) .nil))))
    .nil) .nil)
  (.cons (.ret (.tup (.cons (.call "heights_of" (.cons (.var 0) .nil)) (.cons (.blt .tuple (.cons (.lc [4] [4] false (.rng (.idx (.var 0) (.int 0))) (.so (.val (.cmp .notin (.tup (.cons (.var 1) (.cons (.var 4) .nil))) (.var 3)))) (.var 4)) .nil)) .nil))))
  .nil)))))⟩
def D_accepts_bound : Def := ⟨"accepts_bound", ["net", "start", "end", "number", "value", "walk", "heights", "chosen", "edge", "near", "far", "weight"], 5, [false, false, false, false, false], 0,
  (.cons (.xpr (.call "check_two" (.cons (.var 0) (.cons (.var 1) (.cons (.var 2) .nil)))))
  (.cons (.ife (.or (.not (.val (.isi (.var 4) .tuple))) (.val (.cmp .ne (.blt .len (.cons (.var 4) .nil)) (.int 2)))) (.cons (.ret (.bl false))
    .nil) .nil)
  (.cons (.ife (.val (.cmp .isN (.var 3) .non)) (.cons (.unp [6, 7] (.var 4))
    (.cons (.ife (.or (.not (.val (.call "are_right" (.cons (.var 0) (.cons (.var 6) .nil))))) (.or (.not (.val (.call "is_set" (.cons (.var 0) (.cons (.var 7) .nil))))) (.or (.val (.cmp .notin (.var 2) (.var 7))) (.val (.cmp .inn (.var 1) (.var 7)))))) (.cons (.ret (.bl false))
      .nil) .nil)
    (.cons (.ret (.not (.blt .any (.cons (.lc [8, 9, 10, 11] [8, 9, 10, 11] true (.seq (.call "edges_of" (.cons (.var 0) .nil))) .no (.and (.cmp .notin (.var 9) (.var 7)) (.cmp .inn (.var 10) (.var 7)))) .nil))))
    .nil))) .nil)
  (.cons (.unp [5, 6] (.var 4))
  (.cons (.ife (.or (.not (.val (.call "is_integer" (.cons (.var 3) .nil)))) (.or (.not (.val (.call "are_right" (.cons (.var 0) (.cons (.var 6) .nil))))) (.val (.cmp .ne (.bin .sub (.idx (.var 6) (.var 2)) (.idx (.var 6) (.var 1))) (.var 3))))) (.cons (.ret (.bl false))
    .nil) .nil)
  (.cons (.ret (.and (.cmp .eq (.call "walk_end" (.cons (.var 0) (.cons (.var 1) (.cons (.var 5) .nil)))) (.var 2)) (.cmp .eq (.call "length_of" (.cons (.var 0) (.cons (.var 5) .nil))) (.var 3))))
  .nil))))))⟩
def D_law_ask : Def := ⟨"_law_ask", ["_law_which", "_law_row"], 2, [false, false], 0,
  (.cons (.ife (.val (.cmp .eq (.var 0) (.int 0))) (.cons (.xpr (.call "can_keep" (.cons (.idx (.var 1) (.int 0)) .nil)))
    .nil) (.cons (.ife (.val (.cmp .eq (.var 0) (.int 1))) (.cons (.xpr (.call "tight" (.cons (.idx (.var 1) (.int 0)) .nil)))
      .nil) (.cons (.ife (.val (.cmp .eq (.var 0) (.int 2))) (.cons (.xpr (.call "told_round" (.cons (.idx (.var 1) (.int 0)) .nil)))
        .nil) (.cons (.ife (.val (.cmp .eq (.var 0) (.int 3))) (.cons (.xpr (.call "some_heights" (.cons (.idx (.var 1) (.int 0)) .nil)))
          .nil) (.cons (.ife (.val (.cmp .eq (.var 0) (.int 4))) (.cons (.xpr (.call "shows_kept" (.cons (.idx (.var 1) (.int 0)) (.cons .non .nil))))
            .nil) (.cons (.ife (.val (.cmp .eq (.var 0) (.int 5))) (.cons (.xpr (.call "shows_round" (.cons (.idx (.var 1) (.int 0)) (.cons .non .nil))))
              .nil) (.cons (.ife (.val (.cmp .eq (.var 0) (.int 6))) (.cons (.xpr (.call "bound_evidence" (.cons (.idx (.var 1) (.int 0)) (.cons (.idx (.var 1) (.int 1)) (.cons (.idx (.var 1) (.int 2)) .nil)))))
                .nil) (.cons (.xpr (.call "accepts_bound" (.cons (.idx (.var 1) (.int 0)) (.cons (.idx (.var 1) (.int 1)) (.cons (.idx (.var 1) (.int 2)) (.cons .non (.cons .non .nil)))))))
                .nil))
              .nil))
            .nil))
          .nil))
        .nil))
      .nil))
    .nil))
  .nil)⟩
def D_law_told : Def := ⟨"_law_told", ["_law_which", "_law_row", "e"], 2, [false, false], 0,
  (.cons (.trm (.cons (.xpr (.call "_law_ask" (.cons (.var 0) (.cons (.var 1) .nil))))
    .nil) [⟨"BadValue", some 2, [], (.one (.fld 0 "name"))⟩, ⟨"NotPossible", some 2, [], (.lst [.str "not", .fld 0 "why"])⟩])
  (.cons (.ret (.str ""))
  .nil))⟩
def D_law : Def := ⟨"law", ["_law_script", "_law_stream_here", "_law_which", "_law_rule", "_law_net", "_law_odd", "_law_no_net", "_law_no_event", "_law_many", "_law_names", "_law_good", "_law_bad", "_law_first", "_law_apart", "_law_due"], 1, [false], 0,
  (.cons (.asg 1 (.call "_law_stream" (.cons (.var 0) .nil)))
  (.cons (.asg 2 (.call "_law_next" (.cons (.var 1) (.cons (.int 8) .nil))))
  (.cons (.asg 3 (.tup (.cons (.int 0) (.cons (.int 5) (.cons (.neg (.int 100)) (.cons (.int 100) .nil))))))
  (.cons (.asg 4 (.tup (.cons (.int 6) (.cons (.bin .mul (.tup (.cons (.var 3) .nil)) (.int 12)) .nil))))
  (.cons (.asg 5 (.lst (.cons (.tup (.cons (.int 0) (.cons (.tup .nil) .nil))) (.cons (.tup (.cons (.int 7) (.cons (.tup .nil) .nil))) (.cons (.tup (.cons (.bl true) (.cons (.tup .nil) .nil))) (.cons (.tup (.cons (.int 2) (.cons (.lst (.cons (.tup (.cons (.int 0) (.cons (.int 1) (.cons (.int 0) (.cons (.int 1) .nil))))) .nil)) .nil))) (.cons (.lst (.cons (.int 2) (.cons (.tup .nil) .nil))) (.cons (.tup (.cons (.int 6) (.cons (.bin .mul (.tup (.cons (.var 3) .nil)) (.int 13)) .nil))) (.cons (.tup (.cons (.int 2) .nil)) (.cons (.tup (.cons (.int 2) (.cons (.tup .nil) (.cons (.tup .nil) .nil)))) (.cons .non (.cons (.tup (.cons (.int 2) (.cons (.tup (.cons (.tup (.cons (.int 0) (.cons (.int 2) (.cons (.int 0) (.cons (.int 1) .nil))))) .nil)) .nil))) .nil))))))))))))
  (.cons (.asg 5 (.bin .add (.var 5) (.lst (.cons (.tup (.cons (.int 2) (.cons (.tup (.cons (.tup (.cons (.int 0) (.cons (.int 0) (.cons (.int 0) (.cons (.int 1) .nil))))) .nil)) .nil))) (.cons (.tup (.cons (.int 2) (.cons (.tup (.cons (.tup (.cons (.int 0) (.cons (.int 1) (.cons .non (.cons .non .nil))))) .nil)) .nil))) (.cons (.tup (.cons (.int 2) (.cons (.tup (.cons (.tup (.cons (.int 0) (.cons (.int 1) (.cons (.neg (.int 101)) (.cons (.int 1) .nil))))) .nil)) .nil))) (.cons (.tup (.cons (.int 2) (.cons (.tup (.cons (.tup (.cons (.int 0) (.cons (.int 1) (.cons (.int 0) (.cons (.int 101) .nil))))) .nil)) .nil))) (.cons (.tup (.cons (.int 2) (.cons (.tup (.cons (.tup (.cons (.int 0) (.cons (.int 1) (.cons (.int 0) .nil)))) .nil)) .nil))) .nil))))))))
  (.cons (.asg 5 (.bin .add (.var 5) (.lst (.cons (.tup (.cons (.int 2) (.cons (.tup (.cons (.tup (.cons (.int 0) (.cons (.bl true) (.cons (.int 0) (.cons (.int 1) .nil))))) .nil)) .nil))) (.cons (.tup (.cons (.int 2) (.cons (.tup (.cons (.tup (.cons (.neg (.int 1)) (.cons (.int 0) (.cons (.int 0) (.cons (.int 1) .nil))))) .nil)) .nil))) (.cons (.tup (.cons (.int 2) (.cons (.tup (.cons (.tup (.cons (.int 0) (.cons (.int 1) (.cons (.bl true) (.cons (.int 1) .nil))))) .nil)) .nil))) (.cons (.tup (.cons (.int 2) (.cons (.tup (.cons (.lst (.cons (.int 0) (.cons (.int 1) (.cons (.int 0) (.cons (.int 1) .nil))))) .nil)) .nil))) (.cons (.tup (.cons (.int 2) (.cons (.tup (.cons (.tup (.cons (.int 0) (.cons (.int 1) (.cons (.str "0") (.cons (.int 1) .nil))))) .nil)) .nil))) (.cons (.tup (.cons (.int 2) (.cons (.tup (.cons (.int 0) (.cons (.int 1) .nil))) .nil))) .nil)))))))))
  (.cons (.asg 6 (.idx (.var 5) (.call "_law_next" (.cons (.var 1) (.cons (.int 21) .nil)))))
  (.cons (.asg 7 (.idx (.lst (.cons (.int 6) (.cons (.neg (.int 1)) (.cons .non (.cons (.bl true) (.cons (.str "0") (.cons (.tup (.cons (.int 0) .nil)) .nil))))))) (.call "_law_next" (.cons (.var 1) (.cons (.int 6) .nil)))))
  (.cons (.asg 8 (.idx (.lst (.cons (.int 1) (.cons (.int 3) .nil))) (.blt .int (.cons (.cmp .gt (.var 2) (.int 5)) .nil))))
  (.cons (.asg 9 (.slc (.lst (.cons (.str "net") (.cons (.str "start") (.cons (.str "end") .nil)))) .no (.so (.var 8))))
  (.cons (.asg 10 (.slc (.lst (.cons (.var 4) (.cons (.int 5) (.cons (.int 0) .nil)))) .no (.so (.var 8))))
  (.cons (.asg 11 (.slc (.lst (.cons (.var 6) (.cons (.var 7) (.cons (.idx (.lst (.cons (.int 6) (.cons (.neg (.int 1)) (.cons .non (.cons (.bl true) .nil))))) (.call "_law_next" (.cons (.var 1) (.cons (.int 4) .nil)))) .nil)))) .no (.so (.var 8))))
  (.cons (.ife (.val (.cmp .ne (.call "_law_told" (.cons (.var 2) (.cons (.var 10) .nil))) (.str ""))) (.cons (.ret (.bl false))
    .nil) .nil)
  (.cons (.forr [12] false (.rng (.var 8)) (.cons (.ife (.val (.cmp .ne (.call "_law_told" (.cons (.var 2) (.cons (.bin .add (.slc (.var 10) .no (.so (.var 12))) (.slc (.var 11) (.so (.var 12)) .no)) .nil))) (.idx (.var 9) (.var 12)))) (.cons (.ret (.bl false))
      .nil) .nil)
    (.cons (.ife (.val (.cmp .ne (.call "_law_told" (.cons (.var 2) (.cons (.bin .add (.bin .add (.slc (.var 10) .no (.so (.var 12))) (.slc (.var 11) (.so (.var 12)) (.so (.bin .add (.var 12) (.int 1))))) (.slc (.var 10) (.so (.bin .add (.var 12) (.int 1))) .no)) .nil))) (.idx (.var 9) (.var 12)))) (.cons (.ret (.bl false))
      .nil) .nil)
    .nil)))
  (.cons (.asg 13 (.tup (.cons (.int 3) (.cons (.tup (.cons (.tup (.cons (.int 0) (.cons (.int 1) (.cons (.int 3) (.cons .non .nil))))) (.cons (.tup (.cons (.int 1) (.cons (.int 2) (.cons (.int 0) (.cons (.int 0) .nil))))) (.cons (.tup (.cons (.int 2) (.cons (.int 0) (.cons (.neg (.int 2)) (.cons .non .nil))))) .nil)))) .nil))))
  (.cons (.asg 14 (.idx (.lst (.cons (.str "") (.cons (.lst (.cons (.str "not") (.cons (.str "net") .nil))) .nil))) (.blt .int (.cons (.cmp .inn (.var 2) (.lst (.cons (.int 1) (.cons (.int 6) .nil)))) .nil))))
  (.cons (.ife (.val (.cmp .ne (.call "_law_told" (.cons (.var 2) (.cons (.slc (.lst (.cons (.var 13) (.cons (.int 0) (.cons (.int 2) .nil)))) .no (.so (.var 8))) .nil))) (.var 14))) (.cons (.ret (.bl false))
    .nil) .nil)
  (.cons (.ret (.or (.cmp .eq (.var 8) (.int 1)) (.cmp .eq (.call "_law_told" (.cons (.var 2) (.cons (.lst (.cons (.var 13) (.cons (.var 7) (.cons (.int 0) .nil)))) .nil))) (.str "start"))))
  .nil)))))))))))))))))))⟩
def consts : List (String × Int) := [("MOST_EVENTS", 6), ("MOST_RULES", 12), ("FARTHEST", 100)]
def constsT : List (String × List D) := [("SIDES", [.str (Str.ofString "high"), .str (Str.ofString "low")])]
def C0 : Cf := ⟨fun _ => none, fun x => match consts.lookup x with | some i => some (.int i) | none => (constsT.lookup x).map fun ds => .dict [(.none, .tuple ds)]⟩
def C1 : Cf := D_is_between.add C0
def C2 : Cf := D_is_side.add C1
def C3 : Cf := D_is_rule.add C2
def C4 : Cf := D_is_net.add C3
def C5 : Cf := D_excess_of.add C4
def C6 : Cf := D_all_hold.add C5
def C7 : Cf := D_edges_of.add C6
def C8 : Cf := D_edge_of.add C7
def C9 : Cf := D_walk_end.add C8
def C10 : Cf := D_length_of.add C9
def C11 : Cf := D_is_integer.add C10
def C12 : Cf := D_check_net_k15.add C11
def C13 : Cf := D_longer_walks.add C12
def C14 : Cf := D_first_round.add C13
def C15 : Cf := D_with_walk.add C14
def C16 : Cf := D_shortest_walks.add C15
def C17 : Cf := D_bounds_of.add C16
def C18 : Cf := D_can_keep.add C17
def C19 : Cf := D_check_kept_X.add C18
def C20 : Cf := D_tight.add C19
def C21 : Cf := D_told_round.add C20
def C22 : Cf := D_heights_of.add C21
def C23 : Cf := D_some_heights.add C22
def C24 : Cf := D_are_heights.add C23
def C25 : Cf := D_are_right.add C24
def C26 : Cf := D_shows_kept.add C25
def C27 : Cf := D_shows_round.add C26
def C28 : Cf := D_is_event_b.add C27
def C29 : Cf := D_check_two.add C28
def C30 : Cf := D_pulled.add C29
def C31 : Cf := D_bound_evidence.add C30
def C32 : Cf := D_is_set.add C31
def C33 : Cf := D_accepts_bound.add C32
def C34 : Cf := D_law_stream.add C33
def C35 : Cf := D_law_next.add C34
def C36 : Cf := D_law_ask.add C35
def C37 : Cf := D_law_told.add C36
end Bide

set_option autoImplicit false
set_option linter.all false
/-! The equations of evaluation, one by one (printed by geneq.py). -/
namespace Bide
open PySem
theorem zAa {c : Cf} {i : _} {ev : Ev} : evE c (.var i : E) ev = match ev[i]? with
    | some (.sh d) => .ok (.v d) ev
    | some (.ow (.ll xs)) => .ok (.v (OV.ll xs).val) (ev.set i (.sh (OV.ll xs).val))
    | some (.ow _) => .ok (.s i) ev
    | some (.io _) => .ok (.s i) ev
    | _ => .bad := by (simp only [evE]) <;> rfl
theorem zAb (c : Cf) (ev : Ev) : evE c (.non : E) ev = .ok (.v .none) ev := by (simp only [evE]) <;> rfl
theorem zAc {c : Cf} {b : _} {ev : Ev} : evE c (.bl b : E) ev = .ok (.v (.bool b)) ev := by (simp only [evE]) <;> rfl
theorem zAd {c : Cf} {i : _} {ev : Ev} : evE c (.int i : E) ev = .ok (.v (.int i)) ev := by (simp only [evE]) <;> rfl
theorem zAe {c : Cf} {s : _} {ev : Ev} : evE c (.str s : E) ev = .ok (.v (.str (Str.ofString s))) ev := by (simp only [evE]) <;> rfl
theorem zAf {c : Cf} {x : _} {ev : Ev} : evE c (.glo x : E) ev = match c.gl x with
    | some d => .ok (.v d) ev
    | none => .bad := by (simp only [evE]) <;> rfl
theorem zAg {c : Cf} {o a b : _} {ev : Ev} : evE c (.bin o a b : E) ev = (evE c a ev).bind fun r e1 => (evE c b e1).bind fun q e2 =>
    match rd e2 (stl r), rd e2 q with
    | some x, some y => R.of e2 (bop o x y)
    | _, _ => .bad := by (simp only [evE]) <;> rfl
theorem zAh {c : Cf} {a : _} {ev : Ev} : evE c (.neg a : E) ev = (evE c a ev).bind fun r e1 => match rd e1 r with
    | some (.int i) => .ok (.v (.int (-i))) e1
    | _ => .bad := by (simp only [evE]) <;> rfl
theorem zAi {c : Cf} {o a b : _} {ev : Ev} : evE c (.cmp o a b : E) ev = (evE c a ev).bind fun r e1 => (evE c b e1).bind fun q e2 =>
    match rd e2 (stl r), rd e2 q with
    | some x, some y => match cop o x y with
      | some k => .ok (.v (.bool k)) e2
      | none => .bad
    | _, _ => .bad := by (simp only [evE]) <;> rfl
theorem zAj {c : Cf} {o p a b d : _} {ev : Ev} : evE c (.chn o p a b d : E) ev = (evE c a ev).bind fun r e1 => (evE c b e1).bind fun q e2 =>
    match rd e2 (stl r), rd e2 (stl q) with
    | some x, some y => match cop o x y with
      | some true => (evE c d e2).bind fun u e3 => match rd e3 (stl q), rd e3 u with
        | some y2, some z => match cop p y2 z with
          | some k => .ok (.v (.bool k)) e3
          | none => .bad
        | _, _ => .bad
      | some false => .ok (.v (.bool false)) e2
      | none => .bad
    | _, _ => .bad := by (simp only [evE]) <;> rfl
theorem zAk {c : Cf} {a b : _} {ev : Ev} : evE c (.and a b : E) ev = (evE c a ev).bind fun r e1 => match rd e1 r with
    | some d => match truth d with
      | some true => evE c b e1
      | some false => .ok (stl r) e1
      | none => .bad
    | none => .bad := by (simp only [evE]) <;> rfl
theorem zAl {c : Cf} {a b : _} {ev : Ev} : evE c (.or a b : E) ev = (evE c a ev).bind fun r e1 => match rd e1 r with
    | some d => match truth d with
      | some false => evE c b e1
      | some true => .ok (stl r) e1
      | none => .bad
    | none => .bad := by (simp only [evE]) <;> rfl
theorem zAm {c : Cf} {a : _} {ev : Ev} : evE c (.not a : E) ev = (evE c a ev).bind fun r e1 => match rd e1 r with
    | some d => match truth d with
      | some k => .ok (.v (.bool (!k))) e1
      | none => .bad
    | none => .bad := by (simp only [evE]) <;> rfl
theorem zAn {c : Cf} {t a b : _} {ev : Ev} : evE c (.ife t a b : E) ev = (evT c t ev).bind fun k e1 => match k with
    | true => evE c a e1
    | false => evE c b e1 := by (simp only [evE]) <;> rfl
theorem zAo {c : Cf} {es : _} {ev : Ev} : evE c (.tup es : E) ev = (evEs c es ev).bind fun rs e1 => match escs e1 rs with
    | some (ds, e2) => if ds.length ≤ line then .ok (.v (.tuple ds)) e2 else .bad
    | none => .bad := by (simp only [evE]) <;> rfl
theorem zAp {c : Cf} {es : _} {ev : Ev} : evE c (.lst es : E) ev = (evEs c es ev).bind fun rs e1 => match escs e1 rs with
    | some (ds, e2) => if ds.length ≤ line then .ok (.f (.l ds)) e2 else .bad
    | none => .bad := by (simp only [evE]) <;> rfl
theorem zAq {c : Cf} {t : _} {ev : Ev} : evE c (.dnew t : E) ev = .ok (.f (.d t [])) ev := by (simp only [evE]) <;> rfl
theorem zAr {c : Cf} {a b : _} {ev : Ev} : evE c (.idx a b : E) ev = (evE c a ev).bind fun r e1 => (evE c b e1).bind fun q e2 =>
    match rd e2 (stl r), rd e2 q with
    | some x, some y => match idxD x y with
      | some d => .ok (.v d) e2
      | none => .bad
    | _, _ => .bad := by (simp only [evE]) <;> rfl
theorem zAs {c : Cf} {i a j : _} {ev : Ev} : evE c (.idx2 i a j : E) ev = match ownLL ev[i]? with
    | some _ => (evE c a ev).bind fun r e1 => match rd e1 r, ownLL e1[i]?, rd e1 (.s j) with
      | some (.int m), some xss, some (.int n) => match atD xss m with
        | some xs => match atD xs n with
          | some d => .ok (.v d) e1
          | none => .bad
        | none => .bad
      | _, _, _ => .bad
    | none => .bad := by (simp only [evE]) <;> rfl
theorem zAt {c : Cf} {a lo hi : _} {ev : Ev} : evE c (.slc a lo hi : E) ev = (evE c a ev).bind fun r e1 => (evO c lo e1).bind fun x e2 => (evO c hi e2).bind fun y e3 =>
    match rd e3 (stl r) with
    | some d => R.of e3 (slcD d x y)
    | none => .bad := by (simp only [evE]) <;> rfl
theorem zAu {c : Cf} {a b : _} {ev : Ev} : evE c (.dget a b : E) ev = (evE c a ev).bind fun r e1 => (evE c b e1).bind fun q e2 =>
    match rd e2 (stl r), rd e2 q with
    | some (.dict ((.bool t, .none) :: kvs)), some k => match (if keyOkT t k = true then getKV kvs k else none) with
      | some d => .ok (.v d) e2
      | none => .bad
    | _, _ => .bad := by (simp only [evE]) <;> rfl
theorem zAv {c : Cf} {f es : _} {ev : Ev} : evE c (.call f es : E) ev = match c.G f with
    | some F => (evEs c es ev).bind fun rs e1 => match lend e1 F.io rs with
      | some (ds, ls, e2) => match F.run ds with
        | .ok r outs => match giveBack e2 ls outs with
          | some e3 => .ok r e3
          | none => .bad
        | .ex x => if ls.isEmpty then .ex x e2 else .bad
        | .bad => .bad
      | none => .bad
    | none => .bad := by (simp only [evE]) <;> rfl
theorem zAw {c : Cf} {f es : _} {ev : Ev} : evE c (.blt f es : E) ev = (evEs c es ev).bind fun rs e1 => match rds e1 rs with
    | some ds => R.of e1 (blt f ds)
    | none => .bad := by (simp only [evE]) <;> rfl
theorem zAx {c : Cf} {a : _} {ev : Ev} : evE c (.lrg a : E) ev = (evE c a ev).bind fun r e1 => match rd e1 r with
    | some (.int n) => if -(2 ^ 62) ≤ n ∧ n ≤ line then .ok (.f (.l (rngD 0 n.toNat))) e1 else .bad
    | _ => .bad := by (simp only [evE]) <;> rfl
theorem zAy {c : Cf} {a b : _} {ev : Ev} : evE c (.lrg2 a b : E) ev = (evE c a ev).bind fun r e1 => (evE c b e1).bind fun q e2 => match rd e2 (stl r), rd e2 q with
    | some (.int m), some (.int n) => if -(2 ^ 62) ≤ m ∧ m < 2 ^ 62 ∧ -(2 ^ 62) ≤ n ∧ n < 2 ^ 62 ∧ n - m ≤ line then .ok (.f (.l (rngD m (n - m).toNat))) e2 else .bad
    | _, _ => .bad := by (simp only [evE]) <;> rfl
theorem zAz {c : Cf} {a : _} {ev : Ev} : evE c (.trg a : E) ev = (evE c a ev).bind fun r e1 => match rd e1 r with
    | some (.int n) => if -(2 ^ 62) ≤ n ∧ n ≤ line then .ok (.v (.tuple (rngD 0 n.toNat))) e1 else .bad
    | _ => .bad := by (simp only [evE]) <;> rfl
theorem zA0 {c : Cf} {a : _} {ev : Ev} : evE c (.rev a : E) ev = (evE c a ev).bind fun r e1 => match rd e1 r with
    | some d => R.of e1 (revD d)
    | none => .bad := by (simp only [evE]) <;> rfl
theorem zA1 {c : Cf} {a t : _} {ev : Ev} : evE c (.isi a t : E) ev = (evE c a ev).bind fun r e1 => match rd e1 r with
    | some d => match isTy t d with
      | some k => .ok (.v (.bool k)) e1
      | none => .bad
    | none => .bad := by (simp only [evE]) <;> rfl
theorem zA2 {c : Cf} {m i e : _} {ev : Ev} : evE c (.mth1 m i e : E) ev = match ownL ev[i]? with
    | some _ => (evE c e ev).bind fun r e1 => match esc e1 r with
      | some (d, e2) => match ownL e2[i]? with
        | some xs => match mth m xs d with
          | some (d, ys) => .ok (.v d) (putL e2 i ys)
          | none => .bad
        | none => .bad
      | none => .bad
    | none => .bad := by (simp only [evE]) <;> rfl
theorem zA3 {c : Cf} {i : _} {ev : Ev} : evE c (.pop0 i : E) ev = match ownL ev[i]? with
    | some xs => match xs.getLast? with
      | some d => .ok (.v d) (putL ev i xs.dropLast)
      | none => .bad
    | none => .bad := by (simp only [evE]) <;> rfl
theorem zA4 {c : Cf} {i a b : _} {ev : Ev} : evE c (.ins i a b : E) ev = match ownL ev[i]? with
    | some _ => (evE c a ev).bind fun q e1 => (evE c b e1).bind fun r e2 => match rd e2 (stl q) with
      | some (.int j) => match esc e2 r with
        | some (d, e3) => match ownL e3[i]? with
          | some xs => if 0 ≤ j ∧ j < 2 ^ 62 ∧ xs.length < line then .ok (.v .none) (putL e3 i (xs.take j.toNat ++ [d] ++ xs.drop j.toNat)) else .bad
          | none => .bad
        | none => .bad
      | _ => .bad
    | none => .bad := by (simp only [evE]) <;> rfl
theorem zA5 {c : Cf} {a b : _} {ev : Ev} : evE c (.ixof a b : E) ev = (evE c a ev).bind fun r e1 => match rd e1 r with
    | some (.list _) => (evE c b e1).bind fun q e2 => match rd e2 (stl r), rd e2 q with
      | some (.list ds), some y => match ixD ds y with
        | some j => .ok (.v (.int (j : Nat))) e2
        | none => .bad
      | _, _ => .bad
    | _ => .bad := by (simp only [evE]) <;> rfl
theorem zA6 {c : Cf} {k v : _} {ev : Ev} : evE c (.dlit k v : E) ev = (evE c k ev).bind fun q e1 => (evE c v e1).bind fun r e2 => match rd e2 (stl q), esc e2 r with
    | some x, some (y, e3) => if keyOk x = true then .ok (.f (.d false [(x, y)])) e3 else .bad
    | _, _ => .bad := by (simp only [evE]) <;> rfl
theorem zA7 {c : Cf} {a b : _} {ev : Ev} : evE c (.dg1 a b : E) ev = (evE c a ev).bind fun r e1 => match rd e1 r with
    | some (.dict ((.bool _, .none) :: _)) => (evE c b e1).bind fun q e2 => match rd e2 (stl r), rd e2 q with
      | some (.dict ((.bool t, .none) :: kvs)), some k => if keyOkT t k = true then .ok (.v ((getKV kvs k).getD .none)) e2 else .bad
      | _, _ => .bad
    | _ => .bad := by (simp only [evE]) <;> rfl
theorem zA8 {c : Cf} {a b d : _} {ev : Ev} : evE c (.dg2 a b d : E) ev = (evE c a ev).bind fun r e1 => match rd e1 r with
    | some (.dict ((.bool _, .none) :: _)) => (evE c b e1).bind fun q e2 => (evE c d e2).bind fun u e3 => match rd e3 (stl r), rd e3 (stl q), u with
      | some (.dict ((.bool t, .none) :: kvs)), some k, .v x => if keyOkT t k = true then .ok (.v ((getKV kvs k).getD x)) e3 else .bad
      | _, _, _ => .bad
    | _ => .bad := by (simp only [evE]) <;> rfl
theorem zA9 {c : Cf} {i : _} {ev : Ev} : evE c (.items i : E) ev = match ev[i]? with
    | some (.ow (.d false kvs)) => .ok (.f (.l (kvs.map fun kv => .tuple [kv.1, kv.2]))) ev
    | _ => .bad := by (simp only [evE]) <;> rfl
theorem zBa {c : Cf} {a : _} {ev : Ev} : evE c (.strI a : E) ev = (evE c a ev).bind fun r e1 => match rd e1 r with
    | some (.int i) => if i.natAbs.log2 < 1920 then .ok (.v (.str (Str.ofString (toString i)))) e1 else .bad
    | _ => .bad := by (simp only [evE]) <;> rfl
theorem zBb {c : Cf} {a k : _} {ev : Ev} : evE c (.srtk a k : E) ev = (evE c a ev).bind fun r e1 => match rd e1 r with
    | some (.list ds) => match keysL (evE c k) ds with
      | some ks => if srtB ks = true then .ok (.f (.l (sortK ds ks))) e1 else .bad
      | none => .bad
    | _ => .bad := by (simp only [evE]) <;> rfl
theorem zBc {c : Cf} {e : _} {ev : Ev} : evT c (.val e : T) ev = (evE c e ev).bind fun r e1 => match rd e1 r with
    | some d => R.of e1 (truT d)
    | none => .bad := by (simp only [evT]) <;> rfl
theorem zBd {c : Cf} {a b : _} {ev : Ev} : evT c (.and a b : T) ev = (evT c a ev).bind fun k e1 => match k with
    | true => evT c b e1
    | false => .ok false e1 := by (simp only [evT]) <;> rfl
theorem zBe {c : Cf} {a b : _} {ev : Ev} : evT c (.or a b : T) ev = (evT c a ev).bind fun k e1 => match k with
    | true => .ok true e1
    | false => evT c b e1 := by (simp only [evT]) <;> rfl
theorem zBf {c : Cf} {a : _} {ev : Ev} : evT c (.not a : T) ev = (evT c a ev).bind fun k e1 => .ok (!k) e1 := by (simp only [evT]) <;> rfl
theorem zBg (c : Cf) (ev : Ev) : evEs c (.nil : Es) ev = .ok [] ev := by (simp only [evEs]) <;> rfl
theorem zBh {c : Cf} {e es : _} {ev : Ev} : evEs c (.cons e es : Es) ev = (evE c e ev).bind fun r e1 => (evEs c es e1).bind fun rs e2 => .ok (stl r :: rs) e2 := by (simp only [evEs]) <;> rfl
theorem zBi (c : Cf) (ev : Ev) : evO c (.no : O) ev = .ok none ev := by (simp only [evO]) <;> rfl
theorem zBj {c : Cf} {e : _} {ev : Ev} : evO c (.so e : O) ev = (evE c e ev).bind fun r e1 => match rd e1 r with
    | some (.int i) => .ok (some i) e1
    | _ => .bad := by (simp only [evO]) <;> rfl
theorem zBk (c : Cf) (ev : Ev) : evC c (.no : C) ev = .ok true ev := by (simp only [evC]) <;> rfl
theorem zBl {c : Cf} {t : _} {ev : Ev} : evC c (.so t : C) ev = evT c t ev := by (simp only [evC]) <;> rfl
theorem zBm {c : Cf} {e : _} {ev : Ev} : evIt c (.seq e : It) ev = (evE c e ev).bind fun r e1 => match esc e1 r with
    | some (d, e2) => R.of e2 (seqOf d)
    | none => .bad := by (simp only [evIt]) <;> rfl
theorem zBn {c : Cf} {a : _} {ev : Ev} : evIt c (.rng a : It) ev = (evE c a ev).bind fun r e1 => match rd e1 r with
    | some (.int n) => if -(2 ^ 62) ≤ n ∧ n ≤ line then .ok (rngD 0 n.toNat) e1 else .bad
    | _ => .bad := by (simp only [evIt]) <;> rfl
theorem zBo {c : Cf} {a b : _} {ev : Ev} : evIt c (.rng2 a b : It) ev = (evE c a ev).bind fun r e1 => (evE c b e1).bind fun q e2 => match rd e2 (stl r), rd e2 q with
    | some (.int m), some (.int n) => if -(2 ^ 62) ≤ m ∧ m < 2 ^ 62 ∧ -(2 ^ 62) ≤ n ∧ n < 2 ^ 62 ∧ n - m ≤ line then .ok (rngD m (n - m).toNat) e2 else .bad
    | _, _ => .bad := by (simp only [evIt]) <;> rfl
theorem zBp {c : Cf} {e : _} {ev : Ev} : evIt c (.enum e : It) ev = (evE c e ev).bind fun r e1 => match esc e1 r with
    | some (d, e2) => match d with
      | .list ds => .ok (enumD ds) e2
      | .tuple ds => .ok (enumD ds) e2
      | _ => .bad
    | none => .bad := by (simp only [evIt]) <;> rfl
theorem zBq {c : Cf} {a b : _} {ev : Ev} : evIt c (.zip a b : It) ev = (evE c a ev).bind fun r e1 => match esc e1 r with
    | some (d, e2) => (evE c b e2).bind fun q e3 => match esc e3 q with
      | some (d2, e4) => match d, d2 with
        | .list xs, .list ys => .ok (zipD xs ys) e4
        | .tuple xs, .tuple ys => .ok (zipD xs ys) e4
        | .list xs, .tuple ys => .ok (zipD xs ys) e4
        | .tuple xs, .list ys => .ok (zipD xs ys) e4
        | _, _ => .bad
      | none => .bad
    | none => .bad := by (simp only [evIt]) <;> rfl
theorem zBr {c : Cf} {i e : _} {ev : Ev} : evS c (.asg i e : S) ev = (evE c e ev).bind fun r e1 => match putR e1 i r with
    | some e2 => .ok .nx e2
    | none => .bad := by (simp only [evS]) <;> rfl
theorem zBs {c : Cf} {is e : _} {ev : Ev} : evS c (.unp is e : S) ev = (evE c e ev).bind fun r e1 => match esc e1 r with
    | some (.tuple ds, e2) => match setVs e2 is ds with
      | some e3 => .ok .nx e3
      | none => .bad
    | _ => .bad := by (simp only [evS]) <;> rfl
theorem zBt {c : Cf} {is e : _} {ev : Ev} : evS c (.unl is e : S) ev = (evE c e ev).bind fun r e1 => match esc e1 r with
    | some (.list ds, e2) => match setVs e2 is ds with
      | some e3 => .ok .nx e3
      | none => .bad
    | _ => .bad := by (simp only [evS]) <;> rfl
theorem zBu {c : Cf} {i a v : _} {ev : Ev} : evS c (.sti i a v : S) ev = (evE c v ev).bind fun r e1 => match esc e1 r with
    | some (d, e2) => match ownL e2[i]? with
      | some _ => (evE c a e2).bind fun q e3 => match rd e3 q, ownL e3[i]? with
        | some (.int j), some xs => match setAt xs j d with
          | some ys => .ok .nx (putL e3 i ys)
          | none => .bad
        | _, _ => .bad
      | none => .bad
    | none => .bad := by (simp only [evS]) <;> rfl
theorem zBv {c : Cf} {i a j v : _} {ev : Ev} : evS c (.st2 i a j v : S) ev = (evE c v ev).bind fun r e1 => match esc e1 r with
    | some (d, e2) => match ownLL e2[i]? with
      | some _ => (evE c a e2).bind fun q e3 => match rd e3 q, ownLL e3[i]?, rd e3 (.s j) with
        | some (.int m), some xss, some (.int n) => match atD xss m with
          | some xs => match setAt xs n d with
            | some ys => match setAt xss m ys with
              | some yss => .ok .nx (e3.set i (.ow (.ll yss)))
              | none => .bad
            | none => .bad
          | none => .bad
        | _, _, _ => .bad
      | none => .bad
    | none => .bad := by (simp only [evS]) <;> rfl
theorem zBw {c : Cf} {i k v : _} {ev : Ev} : evS c (.std i k v : S) ev = (evE c v ev).bind fun r e1 => match esc e1 r with
    | some (d, e2) => match e2[i]? with
      | some (.ow _) => (evE c k e2).bind fun q e3 => match esc e3 q with
        | some (x, e4) => match e4[i]? with
          | some (.ow (.d t kvs)) => if keyOkT t x = true ∧ kvs.length < line then .ok .nx (e4.set i (.ow (.d t (putKV kvs x d)))) else .bad
          | _ => .bad
        | none => .bad
      | _ => .bad
    | none => .bad := by (simp only [evS]) <;> rfl
theorem zBx {c : Cf} {e : _} {ev : Ev} : evS c (.xpr e : S) ev = (evE c e ev).bind fun _ e1 => .ok .nx e1 := by (simp only [evS]) <;> rfl
theorem zBy {c : Cf} {t a b : _} {ev : Ev} : evS c (.ife t a b : S) ev = (evT c t ev).bind fun k e1 => match k with
    | true => evSs c a e1
    | false => evSs c b e1 := by (simp only [evS]) <;> rfl
theorem zBz {c : Cf} {e : _} {ev : Ev} : evS c (.ret e : S) ev = (evE c e ev).bind fun r e1 => match retR e1 r with
    | some (q, e2) => .ok (.rt q) e2
    | none => .bad := by (simp only [evS]) <;> rfl
theorem zB0 (c : Cf) (ev : Ev) : evS c (.retN : S) ev = .ok (.rt (.v .none)) ev := by (simp only [evS]) <;> rfl
theorem zB1 {c : Cf} {x es : _} {ev : Ev} : evS c (.rse x es : S) ev = (evEs c es ev).bind fun rs e1 => match escs e1 rs with
    | some (ds, e2) => .ex ⟨x, ds⟩ e2
    | none => .bad := by (simp only [evS]) <;> rfl
theorem zB2 {c : Cf} {b x i h : _} {ev : Ev} : evS c (.trx b x i h : S) ev = match evSs c b ev with
    | .ex e ev1 => if e.c = x then (match ev1[i]?, evHx h e.fs with
      | some _, some r => .ok (.rt r) ev1
      | _, _ => .bad) else .ex e ev1
    | .ok f ev1 => .ok f ev1
    | .bad => .bad := by (simp only [evS]) <;> rfl
theorem zB3 {c : Cf} {b hs : _} {ev : Ev} : evS c (.trm b hs : S) ev = match evSs c b ev with
    | .ex e ev1 => match slotsB ev1 hs, evHds e hs with
      | true, some (some r) => .ok (.rt r) ev1
      | true, some none => .ex e ev1
      | _, _ => .bad
    | .ok f ev1 => .ok f ev1
    | .bad => .bad := by (simp only [evS]) <;> rfl
theorem zB4 {c : Cf} {is js e : _} {ev : Ev} : evS c (.unn is js e : S) ev = (evE c e ev).bind fun r e1 => match esc e1 r with
    | some (.tuple (.tuple xs :: ds), e2) => match setVs e2 is xs with
      | some e3 => match setVs e3 js ds with
        | some e4 => .ok .nx e4
        | none => .bad
      | none => .bad
    | _ => .bad := by (simp only [evS]) <;> rfl
theorem zB5 {c : Cf} {i a b v u : _} {ev : Ev} : evS c (.sw2 i a b v u : S) ev = (evE c v ev).bind fun r e1 => (evE c u e1).bind fun q e2 => match rd e2 (stl r), rd e2 (stl q) with
    | some x, some y => match ownL e2[i]? with
      | some _ => (evE c a e2).bind fun s e3 => match rd e3 s, ownL e3[i]? with
        | some (.int j), some xs => match setAt xs j x with
          | some ys => (evE c b (putL e3 i ys)).bind fun s2 e4 => match rd e4 s2, ownL e4[i]? with
            | some (.int k), some zs => match setAt zs k y with
              | some ws => .ok .nx (putL e4 i ws)
              | none => .bad
            | _, _ => .bad
          | none => .bad
        | _, _ => .bad
      | none => .bad
    | _, _ => .bad := by (simp only [evS]) <;> rfl
theorem zB6 (c : Cf) (ev : Ev) : evS c (.pass : S) ev = .ok .nx ev := by (simp only [evS]) <;> rfl
theorem zB7 (c : Cf) (ev : Ev) : evS c (.brk : S) ev = .ok .br ev := by (simp only [evS]) <;> rfl
theorem zB8 (c : Cf) (ev : Ev) : evS c (.cont : S) ev = .ok .ct ev := by (simp only [evS]) <;> rfl
theorem zB9 (c : Cf) (ev : Ev) : evS c (.nev : S) ev = .bad := by (simp only [evS]) <;> rfl
theorem zCa (c : Cf) (ev : Ev) : evSs c (.nil : Ss) ev = .ok .nx ev := by (simp only [evSs]) <;> rfl
theorem zCb {c : Cf} {a b : _} {ev : Ev} : evSs c (.cons a b : Ss) ev = (evS c a ev).bind fun f e1 => match f with
    | .nx => evSs c b e1
    | f => .ok f e1 := by (simp only [evSs]) <;> rfl
end Bide

set_option autoImplicit false
set_option linter.all false
/-! How loops and comprehensions evaluate. -/
namespace Bide
open PySem
def SV.free : SV → Prop
  | .no => True
  | .sh _ => True
  | _ => False
section
variable {α : Type} {a b c d e : α} {r : List α}
theorem zCz : atD (a :: r) 0 = some a := rfl
theorem zC0 : atD (a :: b :: r) 1 = some b := rfl
theorem zC1 : atD (a :: b :: c :: r) 2 = some c := rfl
theorem zC2 : atD (a :: b :: c :: d :: r) 3 = some d := rfl
theorem zC3 : atD (a :: b :: c :: d :: e :: r) 4 = some e := rfl
end
theorem zCx (ds : List D) (i : Int) : idxD (.list ds) (.int i) = atD ds i := rfl
theorem zCy (ds : List D) (i : Int) : idxD (.tuple ds) (.int i) = atD ds i := rfl
theorem zCv (ds : List D) : lenOf (.list ds) = some ds.length := rfl
theorem zCw (ds : List D) : lenOf (.tuple ds) = some ds.length := rfl
theorem truT_n : truT .none = some false := rfl
theorem truT_b (b : Bool) : truT (.bool b) = some b := rfl
theorem truT_i (i : Int) : truT (.int i) = some (i != 0) := rfl
theorem truT_l (ds : List D) : truT (.list ds) = some (!ds.isEmpty) := rfl
theorem truT_t (ds : List D) : truT (.tuple ds) = some (!ds.isEmpty) := rfl
theorem truT_s (x : Str) : truT (.str x) = truth (.str x) := rfl
theorem truT_d (kvs : List (D × D)) : truT (.dict ((.bool false, .none) :: kvs)) = some (!kvs.isEmpty) := rfl
theorem zCc : truth .none = some false := rfl
theorem zCd (b : Bool) : truth (.bool b) = some b := rfl
theorem zCe (i : Int) : truth (.int i) = some (i != 0) := rfl
theorem zCf (ds : List D) : truth (.list ds) = some (!ds.isEmpty) := rfl
theorem zCg (ds : List D) : truth (.tuple ds) = some (!ds.isEmpty) := rfl
theorem zCh (i j : Int) : cop .lt (.int i) (.int j) = some (decide (i < j)) := rfl
theorem zCi (i j : Int) : cop .le (.int i) (.int j) = some (decide (i ≤ j)) := rfl
theorem zCj (i j : Int) : cop .gt (.int i) (.int j) = some (decide (j < i)) := rfl
theorem zCk (i j : Int) : cop .ge (.int i) (.int j) = some (decide (j ≤ i)) := rfl
theorem zCl (d : D) : cop .isN d .none = some (isNone d) := rfl
theorem zCm (d : D) : cop .notN d .none = some (!isNone d) := rfl
theorem zCn (a b : Bool) : cop .isB (.bool a) (.bool b) = some (decide (a = b)) := rfl
theorem zCo (a b : Bool) : cop .notB (.bool a) (.bool b) = some (!decide (a = b)) := rfl
theorem zCr (d e : D) : cop .inn d e = dIn d e := rfl
theorem zCs (d e : D) : cop .notin d e = (dIn d e).map not := rfl
theorem sh_int (i : Int) : SeqAt.shaped (.int i) = true := rfl
theorem sh_bool (i : Bool) : SeqAt.shaped (.bool i) = true := rfl
theorem cop_eqD {d e : D} (h : SeqAt.shaped d = true) (h' : SeqAt.shaped e = true) : cop .eq d e = some (PyData.eqv d e) := by simp [cop,h,h']
theorem cop_neD {d e : D} (h : SeqAt.shaped d = true) (h' : SeqAt.shaped e = true) : cop .ne d e = some (!PyData.eqv d e) := by simp [cop,h,h']
theorem zCp (i j : Int) : cop .eq (.int i) (.int j) = some (decide (i = j)) := by rw [cop_eqD (sh_int i) (sh_int j)]; by_cases h : i = j <;> simp [PyData.eqv,h]
theorem zCq (i j : Int) : cop .ne (.int i) (.int j) = some (!decide (i = j)) := by rw [cop_neD (sh_int i) (sh_int j)]; by_cases h : i = j <;> simp [PyData.eqv,h]
theorem zCt (i j : Bool) : cop .eq (.bool i) (.bool j) = some (decide (i = j)) := by rw [cop_eqD (sh_bool i) (sh_bool j)]; by_cases h : i = j <;> simp [PyData.eqv,h]
theorem zCu (i j : Bool) : cop .ne (.bool i) (.bool j) = some (!decide (i = j)) := by rw [cop_neD (sh_bool i) (sh_bool j)]; by_cases h : i = j <;> simp [PyData.eqv,h]
/-! ### with a stream -/
inductive All2 {α β : Type} (P : α → β → Prop) : List α → List β → Prop
  | nil : All2 P [] []
  | cons {a : α} {b : β} {as : List α} {bs : List β} : P a b → All2 P as bs → All2 P (a :: as) (b :: bs)
theorem All2.length {α β : Type} {P : α → β → Prop} {as : List α} {bs : List β} (h : All2 P as bs) : as.length = bs.length := by
  induction h with
  | nil => rfl
  | cons _ _ ih => simp [ih]
theorem All2.right {α β : Type} {P : α → β → Prop} {Q : β → Prop} {as : List α} {bs : List β} (h : All2 P as bs) (hq : ∀ a b, P a b → Q b) : ∀ b ∈ bs, Q b := by
  induction h with
  | nil => intro b hb; cases hb
  | cons h _ ih =>
    intro b hb
    rcases List.mem_cons.mp hb with rfl | hb
    · exact hq _ _ h
    · exact ih b hb
/-! ### for -/
end Bide

set_option pp.maxSteps 400
set_option autoImplicit false
set_option linter.all false
set_option maxRecDepth 100000
set_option maxHeartbeats 4000000
/-! What the first defs compute: forms of nets and times; the stream. -/
namespace Bide
open PySem
/-- a context has a def of this promise -/
def Has (c : Cf) (x : String) (S : Fn → Prop) : Prop := ∃ F, c.G x = some F ∧ S F
/-! ### forms -/
def betw : D → Int → Int → Bool
  | .int v, lo, hi => decide (lo ≤ v) && decide (v ≤ hi)
  | _, _, _ => false
def sideB (d : D) : Bool := match d with
  | .none => true
  | d => betw d (-100) 100
def ruleB (d : D) (n : Int) : Bool := match d with
  | .tuple [a, b, lo, hi] => betw a 0 (n - 1) && betw b 0 (n - 1) && !PyData.eqv a b && sideB lo && sideB hi && (!isNone lo || !isNone hi)
  | _ => false
def netB (d : D) : Bool := match d with
  | .tuple [n, .tuple rs] => betw n 1 6 && decide (rs.length ≤ 12) && (match n with
    | .int n => rs.all fun r => ruleB r n
    | _ => false)
  | _ => false
def timesB (d : D) (n : Int) : Bool := match d with
  | .tuple ts => decide ((ts.length : Int) = n) && ts.all fun t => betw t (-1000) 1000
  | _ => false
end Bide

set_option autoImplicit false
set_option linter.all false
set_option maxRecDepth 100000
set_option maxHeartbeats 4000000
/-! The law's stream of digits; right nets and times. -/
namespace Bide
open PySem
def StOk (st : List D) : Prop := ∃ (ns : List Int) (cell k : Int), st = [.list (ns.map PyData.int), .int cell, .int k] ∧ 0 ≤ cell ∧ 0 ≤ k
def Sp_stream (F : Fn) : Prop := F.io = [false] ∧ ∀ ns : List Int, ∃ st, F.run [.dict [(.none, .list (ns.map PyData.int))]] = .ok (.f (.l st)) [] ∧ StOk st
theorem stream_ok (c : Cf) : Sp_stream (D_law_stream.fn c) := by
  refine ⟨rfl, fun ns => ⟨_, ?_, ns, 0, 0, rfl, by decide, by decide⟩⟩
  simp [Def.fn,mkF,runF,startE,zAa,zAb,zAc,zAd,zAe,zAf,zAg,zAh,zAi,zAj,zAk,zAl,zAm,zAn,zAo,zAp,zAq,zAr,zAs,zAt,zAu,zAv,zAw,zAx,zAy,zAz,zA0,zA1,zA2,zA3,zA4,zA5,zA6,zA7,zA8,zA9,zBa,zBb,zBc,zBd,zBe,zBf,zBg,zBh,zBi,zBj,zBk,zBl,zBm,zBn,zBo,zBp,zBq,zBr,zBs,zBt,zBu,zBv,zBw,zBx,zBy,zBz,zB0,zB1,zB2,zB3,zB4,zB5,zB6,zB7,zB8,zB9,zCa,zCb,R.bind,OV.val,rd,stl,esc,escs,rds,isTy,truT_n,truT_b,truT_i,truT_l,truT_t,truT_s,truT_d,zCc,zCd,zCe,zCf,zCg,zCh,zCi,zCj,zCk,zCl,zCm,zCn,zCo,zCp,zCq,zCr,zCs,zCt,zCu,bop,blt,zCv,zCw,zCx,zCy,zCz,zC0,zC1,zC2,zC3,R.of,outsE,retR,putR,setV,setVs,bindTg,lend,giveBack,ownL,putL,setAt,slcD,revD,asInt,List.replicate,D_law_stream,line]
theorem atD_nat {α : Type} {xs : List α} {i : Int} (h : 0 ≤ i) : atD xs i = xs[i.toNat]? := by unfold atD; rw [if_pos h]
theorem atD_map {α : Type} {f : α → D} {xs : List α} {i : Int} (h : 0 ≤ i) (h' : i < xs.length) : ∃ x, xs[i.toNat]? = some x ∧ atD (xs.map f) i = some (f x) := by
  have hl : i.toNat < xs.length := by omega
  refine ⟨xs[i.toNat], List.getElem?_eq_getElem hl, ?_⟩
  rw [atD_nat h, List.getElem?_map, List.getElem?_eq_getElem hl]
  rfl
/-- the cell's next content -/
def stCell (x k : Int) : Int := if x < 10 ^ 18 then (((x * 48271 + k * 69621 + 11) % 2147483647) * 16807 + 13) % 2147483647 * 65537 + (x * 48271 + k * 69621 + 11) % 2147483647 else x
theorem stCell_nn {x k : Int} (h : 0 ≤ x) : 0 ≤ stCell x k := by
  unfold stCell
  split <;> omega
def Sp_next (F : Fn) : Prop := F.io = [true, false] ∧ ∀ st (m : Int), StOk st → 0 < m → m < 1073741824 → ∃ st' d, F.run [.list st, .int m] = .ok (.v (.int d)) [st'] ∧ StOk st' ∧ 0 ≤ d ∧ d < m
theorem next_ok (c : Cf) : Sp_next (D_law_next.fn c) := by
  refine ⟨rfl, fun st m ⟨ns, cell, k, hst, h1, h2⟩ hm hm' => ?_⟩
  subst hst
  have fin : ∀ (x k' : Int), 0 ≤ x → 0 ≤ k' → (D_law_next.fn c).run [.list [.list (ns.map PyData.int), .int cell, .int k], .int m] = .ok (.v (.int (x % m))) [[.list (ns.map PyData.int), .int (x / m), .int k']] →
      ∃ st' d, (D_law_next.fn c).run [.list [.list (ns.map PyData.int), .int cell, .int k], .int m] = .ok (.v (.int d)) [st'] ∧ StOk st' ∧ 0 ≤ d ∧ d < m :=
    fun x k' hx hk e => ⟨_, _, e, ⟨ns, x / m, k', rfl, Int.ediv_nonneg hx (by omega), hk⟩, Int.emod_nonneg _ (by omega), Int.emod_lt_of_pos _ hm⟩
  by_cases hc : cell = 0
  · subst hc
    by_cases hk : k < ns.length
    · obtain ⟨x, hx, ha⟩ := atD_map (f := PyData.int) h2 hk
      by_cases hb : (if x < 0 then -x else x) < 1000000000000000000
      · refine fin (stCell (if x < 0 then -x else x) k) (k + 1) (stCell_nn (by split <;> omega)) (by omega) ?_
        have e : stCell (if x < 0 then -x else x) k = ((((if x < 0 then -x else x) * 48271 + k * 69621 + 11) % 2147483647) * 16807 + 13) % 2147483647 * 65537 + ((if x < 0 then -x else x) * 48271 + k * 69621 + 11) % 2147483647 := by
          unfold stCell
          rw [if_pos (by simpa using hb)]
        rw [e]
        simp [Def.fn,mkF,runF,startE,zAa,zAb,zAc,zAd,zAe,zAf,zAg,zAh,zAi,zAj,zAk,zAl,zAm,zAn,zAo,zAp,zAq,zAr,zAs,zAt,zAu,zAv,zAw,zAx,zAy,zAz,zA0,zA1,zA2,zA3,zA4,zA5,zA6,zA7,zA8,zA9,zBa,zBb,zBc,zBd,zBe,zBf,zBg,zBh,zBi,zBj,zBk,zBl,zBm,zBn,zBo,zBp,zBq,zBr,zBs,zBt,zBu,zBv,zBw,zBx,zBy,zBz,zB0,zB1,zB2,zB3,zB4,zB5,zB6,zB7,zB8,zB9,zCa,zCb,R.bind,OV.val,rd,stl,esc,escs,rds,isTy,truT_n,truT_b,truT_i,truT_l,truT_t,truT_s,truT_d,zCc,zCd,zCe,zCf,zCg,zCh,zCi,zCj,zCk,zCl,zCm,zCn,zCo,zCp,zCq,zCr,zCs,zCt,zCu,bop,blt,zCv,zCw,zCx,zCy,zCz,zC0,zC1,zC2,zC3,R.of,outsE,retR,putR,setV,setVs,bindTg,lend,giveBack,ownL,putL,setAt,slcD,revD,asInt,List.replicate,D_law_next,hk,ha,hb,hm,hm']
      · refine fin (stCell (if x < 0 then -x else x) k) (k + 1) (stCell_nn (by split <;> omega)) (by omega) ?_
        have e : stCell (if x < 0 then -x else x) k = if x < 0 then -x else x := by
          unfold stCell
          rw [if_neg (by simpa using hb)]
        rw [e]
        simp [Def.fn,mkF,runF,startE,zAa,zAb,zAc,zAd,zAe,zAf,zAg,zAh,zAi,zAj,zAk,zAl,zAm,zAn,zAo,zAp,zAq,zAr,zAs,zAt,zAu,zAv,zAw,zAx,zAy,zAz,zA0,zA1,zA2,zA3,zA4,zA5,zA6,zA7,zA8,zA9,zBa,zBb,zBc,zBd,zBe,zBf,zBg,zBh,zBi,zBj,zBk,zBl,zBm,zBn,zBo,zBp,zBq,zBr,zBs,zBt,zBu,zBv,zBw,zBx,zBy,zBz,zB0,zB1,zB2,zB3,zB4,zB5,zB6,zB7,zB8,zB9,zCa,zCb,R.bind,OV.val,rd,stl,esc,escs,rds,isTy,truT_n,truT_b,truT_i,truT_l,truT_t,truT_s,truT_d,zCc,zCd,zCe,zCf,zCg,zCh,zCi,zCj,zCk,zCl,zCm,zCn,zCo,zCp,zCq,zCr,zCs,zCt,zCu,bop,blt,zCv,zCw,zCx,zCy,zCz,zC0,zC1,zC2,zC3,R.of,outsE,retR,putR,setV,setVs,bindTg,lend,giveBack,ownL,putL,setAt,slcD,revD,asInt,List.replicate,D_law_next,hk,ha,hb,hm,hm']
    · by_cases hb : 7 + k < 1000000000000000000
      · refine fin (stCell (7 + k) k) (k + 1) (stCell_nn (by omega)) (by omega) ?_
        have e : stCell (7 + k) k = (((7 + k) * 48271 + k * 69621 + 11) % 2147483647 * 16807 + 13) % 2147483647 * 65537 + ((7 + k) * 48271 + k * 69621 + 11) % 2147483647 := by
          unfold stCell
          rw [if_pos (by simpa using hb)]
        rw [e]
        simp [Def.fn,mkF,runF,startE,zAa,zAb,zAc,zAd,zAe,zAf,zAg,zAh,zAi,zAj,zAk,zAl,zAm,zAn,zAo,zAp,zAq,zAr,zAs,zAt,zAu,zAv,zAw,zAx,zAy,zAz,zA0,zA1,zA2,zA3,zA4,zA5,zA6,zA7,zA8,zA9,zBa,zBb,zBc,zBd,zBe,zBf,zBg,zBh,zBi,zBj,zBk,zBl,zBm,zBn,zBo,zBp,zBq,zBr,zBs,zBt,zBu,zBv,zBw,zBx,zBy,zBz,zB0,zB1,zB2,zB3,zB4,zB5,zB6,zB7,zB8,zB9,zCa,zCb,R.bind,OV.val,rd,stl,esc,escs,rds,isTy,truT_n,truT_b,truT_i,truT_l,truT_t,truT_s,truT_d,zCc,zCd,zCe,zCf,zCg,zCh,zCi,zCj,zCk,zCl,zCm,zCn,zCo,zCp,zCq,zCr,zCs,zCt,zCu,bop,blt,zCv,zCw,zCx,zCy,zCz,zC0,zC1,zC2,zC3,R.of,outsE,retR,putR,setV,setVs,bindTg,lend,giveBack,ownL,putL,setAt,slcD,revD,asInt,List.replicate,D_law_next,hk,hb,hm,hm']
      · refine fin (stCell (7 + k) k) (k + 1) (stCell_nn (by omega)) (by omega) ?_
        have e : stCell (7 + k) k = 7 + k := by
          unfold stCell
          rw [if_neg (by simpa using hb)]
        rw [e]
        simp [Def.fn,mkF,runF,startE,zAa,zAb,zAc,zAd,zAe,zAf,zAg,zAh,zAi,zAj,zAk,zAl,zAm,zAn,zAo,zAp,zAq,zAr,zAs,zAt,zAu,zAv,zAw,zAx,zAy,zAz,zA0,zA1,zA2,zA3,zA4,zA5,zA6,zA7,zA8,zA9,zBa,zBb,zBc,zBd,zBe,zBf,zBg,zBh,zBi,zBj,zBk,zBl,zBm,zBn,zBo,zBp,zBq,zBr,zBs,zBt,zBu,zBv,zBw,zBx,zBy,zBz,zB0,zB1,zB2,zB3,zB4,zB5,zB6,zB7,zB8,zB9,zCa,zCb,R.bind,OV.val,rd,stl,esc,escs,rds,isTy,truT_n,truT_b,truT_i,truT_l,truT_t,truT_s,truT_d,zCc,zCd,zCe,zCf,zCg,zCh,zCi,zCj,zCk,zCl,zCm,zCn,zCo,zCp,zCq,zCr,zCs,zCt,zCu,bop,blt,zCv,zCw,zCx,zCy,zCz,zC0,zC1,zC2,zC3,R.of,outsE,retR,putR,setV,setVs,bindTg,lend,giveBack,ownL,putL,setAt,slcD,revD,asInt,List.replicate,D_law_next,hk,hb,hm,hm']
  · refine fin cell k h1 h2 ?_
    simp [Def.fn,mkF,runF,startE,zAa,zAb,zAc,zAd,zAe,zAf,zAg,zAh,zAi,zAj,zAk,zAl,zAm,zAn,zAo,zAp,zAq,zAr,zAs,zAt,zAu,zAv,zAw,zAx,zAy,zAz,zA0,zA1,zA2,zA3,zA4,zA5,zA6,zA7,zA8,zA9,zBa,zBb,zBc,zBd,zBe,zBf,zBg,zBh,zBi,zBj,zBk,zBl,zBm,zBn,zBo,zBp,zBq,zBr,zBs,zBt,zBu,zBv,zBw,zBx,zBy,zBz,zB0,zB1,zB2,zB3,zB4,zB5,zB6,zB7,zB8,zB9,zCa,zCb,R.bind,OV.val,rd,stl,esc,escs,rds,isTy,truT_n,truT_b,truT_i,truT_l,truT_t,truT_s,truT_d,zCc,zCd,zCe,zCf,zCg,zCh,zCi,zCj,zCk,zCl,zCm,zCn,zCo,zCp,zCq,zCr,zCs,zCt,zCu,bop,blt,zCv,zCw,zCx,zCy,zCz,zC0,zC1,zC2,zC3,R.of,outsE,retR,putR,setV,setVs,bindTg,lend,giveBack,ownL,putL,setAt,slcD,revD,asInt,List.replicate,D_law_next,hc,hm,hm']
/-! ### right nets -/
structure Rul where
  s : Int
  e : Int
  lo : Option Int
  hi : Option Int
def side : Option Int → D
  | none => .none
  | some i => .int i
def Rul.d (r : Rul) : D := .tuple [.int r.s, .int r.e, side r.lo, side r.hi]
def sideIn (b : Int) : Option Int → Prop
  | none => True
  | some i => -b ≤ i ∧ i ≤ b
structure Rul.ok (r : Rul) (n : Int) : Prop where
  s0 : 0 ≤ r.s
  s1 : r.s < n
  e0 : 0 ≤ r.e
  e1 : r.e < n
  ne : r.s ≠ r.e
  lo : sideIn 100 r.lo
  hi : sideIn 100 r.hi
  one : r.lo ≠ none ∨ r.hi ≠ none
def netD (n : Int) (rs : List Rul) : D := .tuple [.int n, .tuple (rs.map Rul.d)]
def timesD (ts : List Int) : D := .tuple (ts.map PyData.int)
theorem side_ok' {o : Option Int} (h : sideIn 100 o) : sideB (side o) = true := by
  cases o with
  | none => rfl
  | some i => simp [sideIn] at h; simp [side,sideB,betw,h]
theorem isNone_side (o : Option Int) : isNone (side o) = o.isNone := by cases o <;> rfl
theorem Rul.ok.b {r : Rul} {n : Int} (h : r.ok n) : ruleB r.d n = true := by
  have h1 := h.s0
  have h2 := h.s1
  have h3 := h.e0
  have h4 := h.e1
  simp only [Rul.d, ruleB, betw, side_ok' h.lo, side_ok' h.hi, isNone_side]
  have e : PyData.eqv (.int r.s) (.int r.e) = false := by simp [PyData.eqv,h.ne]
  rw [e]
  have := h.one
  cases hl : r.lo <;> cases hh : r.hi <;> simp_all <;> omega
structure NetOk (n : Int) (rs : List Rul) : Prop where
  n1 : 1 ≤ n
  n6 : n ≤ 6
  len : rs.length ≤ 12
  rs : ∀ r ∈ rs, r.ok n
theorem NetOk.b {n : Int} {rs : List Rul} (h : NetOk n rs) : netB (netD n rs) = true := by
  have h1 := h.n1
  have h2 := h.n6
  have h3 : (rs.map Rul.d).all (fun r => ruleB r n) = true := by
    rw [List.all_map, List.all_eq_true]
    exact fun r hr => (h.rs r hr).b
  simp only [netD, netB, betw, h3, List.length_map]
  simp [h.len,h1,h2]
structure TimesOk (n : Int) (ts : List Int) : Prop where
  len : (ts.length : Int) = n
  lo : ∀ t ∈ ts, -1000 ≤ t ∧ t ≤ 1000
theorem TimesOk.b {n : Int} {ts : List Int} (h : TimesOk n ts) : timesB (timesD ts) n = true := by
  simp only [timesD, timesB, List.length_map, h.len, List.all_map]
  simp only [decide_true, Bool.true_and, List.all_eq_true, Function.comp_def, betw]
  intro t ht
  simp [h.lo t ht]
/-- the time of an event -/
def tm (ts : List Int) (i : Int) : Int := ts.getD i.toNat 0
/-! ### the chapter's defs at right arguments -/
end Bide

set_option autoImplicit false
set_option linter.all false
set_option maxRecDepth 100000
set_option maxHeartbeats 4000000
/-! Drawn nets and times; the law's comparison. -/
namespace Bide
open PySem
def ne1 (x : Int) : D → Bool
  | .int y => !decide (y = x)
  | _ => false
def farIn (far : Int) (r : Rul) : Prop := sideIn far r.lo ∧ sideIn far r.hi
/-! ### the law's comparison -/
end Bide

set_option autoImplicit false
set_option linter.all false
/-! Walks of edges and their least lengths. -/
namespace Bide
open PySem
structure Edg where
  id : D
  s : Int
  t : Int
  w : Int
/-- a walk -/
def Pth (E : List Edg) : Int → List Edg → Int → Prop
  | i, [], j => i = j
  | i, e :: p, j => e ∈ E ∧ e.s = i ∧ Pth E e.t p j
def len : List Edg → Int
  | [] => 0
  | e :: p => e.w + len p
section
variable {E : List Edg} {n : Int}
theorem Pth.cut : ∀ {p q : List Edg} {i j : Int}, Pth E i (p ++ q) j → ∃ m, Pth E i p m ∧ Pth E m q j
  | [], q, i, j, h => ⟨i, rfl, h⟩
  | e :: p, q, i, j, ⟨h1, h2, h3⟩ => by
    obtain ⟨m, a, b⟩ := Pth.cut h3
    exact ⟨m, ⟨h1, h2, a⟩, b⟩
/-- all ends are events -/
def Ends (E : List Edg) (n : Int) : Prop := ∀ e ∈ E, (0 ≤ e.s ∧ e.s < n) ∧ 0 ≤ e.t ∧ e.t < n
theorem Pth.rng (hE : Ends E n) : ∀ {p : List Edg} {i j : Int}, Pth E i p j → 0 ≤ i → i < n → 0 ≤ j ∧ j < n
  | [], i, j, h, h0, h1 => by cases h; exact ⟨h0, h1⟩
  | e :: p, i, j, ⟨h1, h2, h3⟩, _, _ => Pth.rng hE h3 (hE e h1).2.1 (hE e h1).2.2
/-- times that keep all edges -/
def Pot (E : List Edg) (f : Int → Int) : Prop := ∀ e ∈ E, f e.t - f e.s ≤ e.w
theorem Pot.le {f : Int → Int} (h : Pot E f) : ∀ {p : List Edg} {i j : Int}, Pth E i p j → f j - f i ≤ len p
  | [], i, j, q => by cases q; simp [len]
  | e :: p, i, j, ⟨h1, h2, h3⟩ => by
    have a := h e h1
    have b := Pot.le h h3
    rw [h2] at a
    simp only [len]
    omega
theorem Pth.fn : ∀ {p : List Edg} {i j j' : Int}, Pth E i p j → Pth E i p j' → j = j'
  | [], i, j, j', h, h' => by cases h; cases h'; rfl
  | e :: p, i, j, j', ⟨_, _, h⟩, ⟨_, _, h'⟩ => Pth.fn h h'
/-- the least length of a walk -/
def Dist (E : List Edg) (i j : Int) : Option Int → Prop
  | some d => (∃ p, Pth E i p j ∧ len p = d) ∧ ∀ p, Pth E i p j → d ≤ len p
  | none => ∀ p, ¬ Pth E i p j
theorem Dist.uniq {i j : Int} : ∀ {o o' : Option Int}, Dist E i j o → Dist E i j o' → o = o'
  | none, none, _, _ => rfl
  | some d, none, ⟨⟨p, h, _⟩, _⟩, h' => absurd h (h' p)
  | none, some d, h', ⟨⟨p, h, _⟩, _⟩ => absurd h (h' p)
  | some d, some d', ⟨⟨p, h, e⟩, k⟩, ⟨⟨p', h', e'⟩, k'⟩ => by
    have a := k p' h'
    have b := k' p h
    rw [e'] at a
    rw [e] at b
    congr 1
    omega
end
/-! ### tables by pairs of events -/
abbrev AL (α : Type) := List ((Int × Int) × α)
def aget {α : Type} : AL α → Int × Int → Option α
  | [], _ => none
  | (k, v) :: r, x => if k = x then some v else aget r x
def aput {α : Type} (w : AL α) (x : Int × Int) (y : α) : AL α :=
  if (w.any fun kv => decide (kv.1 = x)) = true then w.map (fun kv => if kv.1 = x then (kv.1, y) else kv) else w ++ [(x, y)]
section
variable {α : Type}
theorem aget_any : ∀ (w : AL α) (x : Int × Int), (w.any fun kv => decide (kv.1 = x)) = (aget w x).isSome
  | [], _ => rfl
  | (k, v) :: r, x => by
    by_cases h : k = x
    · simp [aget,h]
    · simp [aget,h,aget_any r x]
theorem aget_mem : ∀ {w : AL α} {x : Int × Int}, x ∈ w.map (·.1) → ∃ v, aget w x = some v
  | [], x, h => by simp at h
  | (k, v) :: r, x, h => by
    by_cases e : k = x
    · exact ⟨v, by simp [aget,e]⟩
    · have : x ∈ r.map (·.1) := by
        rcases List.mem_cons.mp h with h | h
        · exact absurd h.symm e
        · exact h
      obtain ⟨u, hu⟩ := aget_mem this
      exact ⟨u, by simp [aget,e,hu]⟩
end
section
variable {α : Type} {f : α → D}
end
end Bide

set_option autoImplicit false
set_option linter.all false
/-! Loops over lists that come of other lists; slots that may hold what they will. -/
namespace Bide
open PySem
def SV.ioB : SV → Bool
  | .io _ => true
  | _ => false
theorem zC4 {x v : SV} {ev : Ev} (h : x.ioB = false) : setV (x :: ev) 0 v = some (v :: ev) := by
  cases x <;> first | rfl | cases h
theorem zC5 {v : SV} {ev : Ev} : setV (.no :: ev) 0 v = some (v :: ev) := rfl
theorem zC6 {v : SV} {ev : Ev} {d : D} : setV (.sh d :: ev) 0 v = some (v :: ev) := rfl
theorem zC7 {v : SV} {ev : Ev} {d : OV} : setV (.ow d :: ev) 0 v = some (v :: ev) := rfl
theorem zC8 {x v : SV} {ev : Ev} {n : Nat} : setV (x :: ev) (n + 1) v = (setV ev n v).map (x :: ·) := by
  simp only [setV, List.getElem?_cons_succ, List.set_cons_succ]
  cases h : ev[n]? with
  | none => rfl
  | some y => cases y <;> rfl
/-! ### statements, one after another -/
def wp (c : Cf) (b : Ss) (ev : Ev) (Q : Fl → Ev → Prop) : Prop := ∃ fl e, evSs c b ev = .ok fl e ∧ Q fl e
def seqQ (c : Cf) (b : Ss) (Q : Fl → Ev → Prop) : Fl → Ev → Prop := fun fl e => match fl with
  | .nx => wp c b e Q
  | f => Q f e
section
variable {c : Cf} {a b rest : Ss} {s : S} {ev e1 e2 : Ev} {Q Q' : Fl → Ev → Prop} {t : T} {e : E} {r q : RV}
theorem zDg (h : Q .nx ev) : wp c .nil ev Q := ⟨.nx, ev, by simp only [evSs], h⟩
theorem zDf (h : evS c s ev = .ok .nx e1) (k : wp c rest e1 Q) : wp c (.cons s rest) ev Q := by
  obtain ⟨fl, e, h1, h2⟩ := k
  exact ⟨fl, e, by simp only [evSs, h, R.bind, h1], h2⟩
theorem wp_fl {fl : Fl} (h : evS c s ev = .ok fl e1) (hn : fl ≠ .nx) (k : Q fl e1) : wp c (.cons s rest) ev Q := by
  refine ⟨fl, e1, ?_, k⟩
  simp only [evSs, h, R.bind]
theorem wp_seq {fl : Fl} (h : evS c s ev = .ok fl e1) (k : seqQ c rest Q fl e1) : wp c (.cons s rest) ev Q := by
  cases fl with
  | nx => exact zDf h k
  | br => exact wp_fl h nofun k
  | ct => exact wp_fl h nofun k
  | rt r => exact wp_fl h nofun k
theorem zDh (h : evT c t ev = .ok false e1) (k : wp c b e1 (seqQ c rest Q)) : wp c (.cons (.ife t a b) rest) ev Q := by
  obtain ⟨fl, e, h1, h2⟩ := k
  exact wp_seq (by simp only [evS, h, R.bind, h1]) h2
theorem zDj (h : evE c e ev = .ok r e1) (hr : retR e1 r = some (q, e2)) (k : Q (.rt q) e2) : wp c (.cons (.ret e) rest) ev Q :=
  wp_fl (fl := .rt q) (by simp only [evS, h, R.bind, hr]) nofun k
theorem wp_for {α : Type} {tg : List Nat} {tup : Bool} {it : It} {enc : α → D} {as : List α} (I : List α → Ev → Prop) (hit : evIt c it ev = .ok (as.map enc) e1) (h0 : I [] e1)
    (step : ∀ pre x suf, as = pre ++ x :: suf → ∀ e, I pre e → ∃ e1, bindTg tup tg e (enc x) = some e1 ∧ wp c b e1 fun fl e2 => match fl with
      | .nx => I (pre ++ [x]) e2
      | .ct => I (pre ++ [x]) e2
      | .br => False
      | .rt r => Q (.rt r) e2)
    (k : ∀ e', I as e' → wp c rest e' Q) : wp c (.cons (.forr tg tup it b) rest) ev Q := by
  have key : ∀ (suf pre : List α) (e : Ev), as = pre ++ suf → I pre e → (∃ e', forL tg tup (evSs c b) (suf.map enc) e = .ok .nx e' ∧ I as e') ∨ ∃ r e', forL tg tup (evSs c b) (suf.map enc) e = .ok (.rt r) e' ∧ Q (.rt r) e' := by
    intro suf
    induction suf with
    | nil => exact fun pre e ha h => .inl ⟨e, rfl, by rw [ha, List.append_nil]; exact h⟩
    | cons x suf ih =>
      intro pre e ha h
      obtain ⟨e1, h1, fl, e2, h2, h3⟩ := step pre x suf ha e h
      cases fl with
      | br => exact h3.elim
      | rt r => exact .inr ⟨r, e2, by simp only [List.map_cons, forL, h1, h2], h3⟩
      | nx =>
        rcases ih (pre ++ [x]) e2 (by rw [ha]; simp) h3 with ⟨e', q1, q2⟩ | ⟨r, e', q1, q2⟩
        · exact .inl ⟨e', by simp only [List.map_cons, forL, h1, h2, q1], q2⟩
        · exact .inr ⟨r, e', by simp only [List.map_cons, forL, h1, h2, q1], q2⟩
      | ct =>
        rcases ih (pre ++ [x]) e2 (by rw [ha]; simp) h3 with ⟨e', q1, q2⟩ | ⟨r, e', q1, q2⟩
        · exact .inl ⟨e', by simp only [List.map_cons, forL, h1, h2, q1], q2⟩
        · exact .inr ⟨r, e', by simp only [List.map_cons, forL, h1, h2, q1], q2⟩
  rcases key as [] e1 rfl h0 with ⟨e', q1, q2⟩ | ⟨r, e', q1, q2⟩
  · exact zDf (by simp only [evS, hit, R.bind, q1]) (k e' q2)
  · exact wp_fl (fl := .rt r) (by simp only [evS, hit, R.bind, q1]) nofun q2
/-- what a body's end wants -/
def endQ (io : List Bool) (P : RV → List (List D) → Prop) : Fl → Ev → Prop := fun fl e => match fl with
  | .nx => ∃ o, outsE e io = some o ∧ P (.v .none) o
  | .rt (.v d) => ∃ o, outsE e io = some o ∧ P (.v d) o
  | .rt (.f d) => ∃ o, outsE e io = some o ∧ P (.f d) o
  | _ => False
theorem run_wp {d : Def} {ds : List D} {ev0 : Ev} {P : RV → List (List D) → Prop} (h0 : startE d.io ds = some ev0) (h : wp c d.body (ev0 ++ List.replicate (d.N.length - ev0.length) .no) (endQ d.io P)) : ∃ r o, (d.fn c).run ds = .ok r o ∧ P r o := by
  obtain ⟨fl, e, h1, h2⟩ := h
  show ∃ r o, runF c d.N.length d.io d.body ds = .ok r o ∧ P r o
  unfold runF
  simp only [h0, h1]
  cases fl with
  | nx => obtain ⟨o, q1, q2⟩ := h2; exact ⟨_, o, by simp only [q1], q2⟩
  | br => exact h2.elim
  | ct => exact h2.elim
  | rt r =>
    cases r with
    | v d => obtain ⟨o, q1, q2⟩ := h2; exact ⟨_, o, by simp only [q1], q2⟩
    | f d => obtain ⟨o, q1, q2⟩ := h2; exact ⟨_, o, by simp only [q1], q2⟩
    | s i => exact h2.elim
theorem run_eq {d : Def} {ds : List D} {ev0 : Ev} {r : RV} {o : List (List D)} (h0 : startE d.io ds = some ev0) (h : wp c d.body (ev0 ++ List.replicate (d.N.length - ev0.length) .no) (endQ d.io fun r' o' => r' = r ∧ o' = o)) : (d.fn c).run ds = .ok r o := by
  obtain ⟨r', o', h1, rfl, rfl⟩ := run_wp h0 h
  exact h1
end
end Bide

set_option pp.maxSteps 400
set_option autoImplicit false
set_option linter.all false
set_option maxRecDepth 100000
set_option maxHeartbeats 4000000
/-! The program's edges and walks: what they compute. -/
namespace Bide
open PySem
/-! ### edges -/
def hiN : D := .str (Str.ofString "high")
def loN : D := .str (Str.ofString "low")
def edgR (p : Nat × Rul) : List Edg :=
  (match p.2.hi with
    | some h => [⟨.tuple [.int p.1, hiN], p.2.s, p.2.e, h⟩]
    | none => []) ++ (match p.2.lo with
    | some l => [⟨.tuple [.int p.1, loN], p.2.e, p.2.s, 0 - l⟩]
    | none => [])
def enumL {α : Type} (rs : List α) : List (Nat × α) := (List.range rs.length).zip rs
def edL (l : List (Nat × Rul)) : List Edg := l.flatMap edgR
def edgs (rs : List Rul) : List Edg := edL (enumL rs)
def Edg.d (e : Edg) : D := .tuple [e.id, .int e.s, .int e.t, .int e.w]
/-! ### longer walks -/
structure WF {α : Type} (n : Int) (W : AL α) : Prop where
  nd : (W.map (·.1)).Nodup
  rg : ∀ k ∈ W.map (·.1), (0 ≤ k.1 ∧ k.1 < n) ∧ 0 ≤ k.2 ∧ k.2 < n
theorem nodup_sub {α : Type} [DecidableEq α] : ∀ {l L : List α}, l.Nodup → (∀ x ∈ l, x ∈ L) → l.length ≤ L.length
  | [], L, _, _ => Nat.zero_le _
  | x :: l, L, hn, hs => by
    have hx : x ∈ L := hs x (by simp)
    have hn' := List.nodup_cons.mp hn
    have := nodup_sub (l := l) (L := L.erase x) hn'.2 (fun y hy => (List.mem_erase_of_ne (fun e => hn'.1 (by rw [← e]; exact hy))).mpr (hs y (by simp [hy])))
    rw [List.length_erase_of_mem hx] at this
    have : 0 < L.length := List.length_pos_of_mem hx
    simp only [List.length_cons]
    omega
theorem WF.len {α : Type} {n : Int} {W : AL α} (h : WF n W) (h6 : n ≤ 6) : W.length ≤ 36 := by
  have key : ∀ k ∈ W.map (·.1), k ∈ (List.range 6).flatMap fun (i : Nat) => (List.range 6).map fun (j : Nat) => ((i : Int), (j : Int)) := fun k hk => by
    obtain ⟨⟨a, b⟩, c, d⟩ := h.rg k hk
    rw [List.mem_flatMap]
    exact ⟨k.1.toNat, by simp; omega, by
      rw [List.mem_map]
      exact ⟨k.2.toNat, by simp; omega, by ext <;> simp <;> omega⟩⟩
  have := nodup_sub h.nd key
  rw [List.length_map] at this
  exact this
theorem aput_keys {α : Type} (W : AL α) (k : Int × Int) (v : α) : (aput W k v).map (·.1) = if (aget W k).isSome = true then W.map (·.1) else W.map (·.1) ++ [k] := by
  unfold aput
  rw [aget_any]
  split
  · rw [List.map_map]
    apply List.map_congr_left
    intro kv _
    by_cases h : kv.1 = k <;> simp [h]
  · simp
theorem WF.put {α : Type} {n : Int} {W : AL α} {k : Int × Int} {v : α} (h : WF n W) (hk : (0 ≤ k.1 ∧ k.1 < n) ∧ 0 ≤ k.2 ∧ k.2 < n) : WF n (aput W k v) := by
  constructor
  · rw [aput_keys]
    split
    · exact h.nd
    · rename_i hh
      rw [List.nodup_append]
      refine ⟨h.nd, by simp, fun a ha b hb => ?_⟩
      simp at hb
      subst hb
      rintro rfl
      obtain ⟨u, hu⟩ := aget_mem ha
      rw [hu] at hh
      simp at hh
  · rw [aput_keys]
    split
    · exact h.rg
    · intro x hx
      rcases List.mem_append.mp hx with hx | hx
      · exact h.rg x hx
      · simp at hx; subst hx; exact hk
theorem WF.nil {α : Type} {n : Int} : WF n ([] : AL α) := ⟨by simp, by simp⟩
end Bide

set_option pp.maxSteps 400
set_option autoImplicit false
set_option linter.all false
set_option maxRecDepth 100000
set_option maxHeartbeats 4000000
/-! The program's rounds, shortest walks and bounds. -/
namespace Bide
open PySem
/-! ### tables -/
section
variable {E : List Edg} {n : Int}
end
/-! ### shortest walks -/
end Bide

set_option pp.maxSteps 400
set_option autoImplicit false
set_option linter.all false
set_option maxRecDepth 100000
set_option maxHeartbeats 4000000
/-! Shortest walks, bounds; the law's bounds. -/
namespace Bide
open PySem
end Bide

set_option pp.maxSteps 400
set_option autoImplicit false
set_option linter.all false
set_option maxRecDepth 100000
set_option maxHeartbeats 4000000
/-! Bounds: the program's rows, the law's table. -/
namespace Bide
open PySem
open Classical in
/-- the tight bound of two events -/
noncomputable def bd (E : List Edg) (i j : Int) : Option Int := if h : ∃ o, Dist E i j o then Classical.choose h else none
/-! ### the law's bounds, by edges again and again -/
def Mon (B C : AL Int) : Prop := ∀ k l, aget B k = some l → ∃ l', aget C k = some l' ∧ l' ≤ l
theorem Mon.refl (B : AL Int) : Mon B B := fun k l h => ⟨l, h, Int.le_refl _⟩
theorem Mon.trans {B C X : AL Int} (h : Mon B C) (k : Mon C X) : Mon B X := fun x l e => by
  obtain ⟨l', a, b⟩ := h x l e
  obtain ⟨l2, c, d⟩ := k x l' a
  exact ⟨l2, c, by omega⟩
end Bide

set_option pp.maxSteps 400
set_option autoImplicit false
set_option linter.all false
set_option maxRecDepth 100000
set_option maxHeartbeats 4000000
/-! Heights moved by news; the law's drawn nets that two rows of times keep. -/
namespace Bide
open PySem
/-! ### rules that times keep -/
/-! ### news -/
structure RowOk (n : Int) (r : List (Int × Int)) : Prop where
  len : r.length ≤ 8
  ev : ∀ p ∈ r, (0 ≤ p.1 ∧ p.1 < n) ∧ -500 ≤ p.2 ∧ p.2 ≤ 500
/-! ### heights moved -/
def lows (b : Int → Int → Option Int) (row : List (Int × Int)) (e : Int) : List Int := (row.filter fun p => (b e p.1).isSome).map fun p => p.2 - (b e p.1).getD 0
def highs (b : Int → Int → Option Int) (row : List (Int × Int)) (e : Int) : List Int := (row.filter fun p => (b p.1 e).isSome).map fun p => p.2 + (b p.1 e).getD 0
def jt1 (b : Int → Int → Option Int) (row : List (Int × Int)) (e t : Int) : Int := minI (maxI t (lows b row e)) (highs b row e)
def jt (b : Int → Int → Option Int) (ts : List Int) (row : List (Int × Int)) : List Int := (enumL ts).map fun p => jt1 b row p.1 p.2
/-- the times behind each piece of news -/
def hs (b : Int → Int → Option Int) (ts : List Int) (row : List (Int × Int)) : List Int × List (List Int) := row.foldl (fun s w => (jt b s.1 [w], s.2 ++ [jt b s.1 [w]])) (ts, [])
end Bide

set_option pp.maxSteps 400
set_option autoImplicit false
set_option linter.all false
set_option maxRecDepth 100000
set_option maxHeartbeats 4000000
/-! The law's drawn nets that two rows of times keep; its rows; what heights moved keep. -/
namespace Bide
open PySem
/-- a net that two rows of times keep -/
structure Two (n : Int) (rs : List Rul) (t1 t2 : List Int) : Prop where
  net : NetOk n rs
  l1 : (t1.length : Int) = n
  l2 : (t2.length : Int) = n
  b1 : ∀ t ∈ t1, -18 ≤ t ∧ t ≤ 18
  b2 : ∀ t ∈ t2, -18 ≤ t ∧ t ≤ 18
  p1 : Pot (edgs rs) (tm t1)
  p2 : Pot (edgs rs) (tm t2)
  far : ∀ r ∈ rs, farIn 39 r
/-! ### what heights moved keep -/
section
variable {E : List Edg} {n : Int}
end
end Bide

set_option pp.maxSteps 400
set_option autoImplicit false
set_option linter.all false
set_option maxRecDepth 100000
set_option maxHeartbeats 4000000
/-! What is good data is equal to itself; rows of times are equal as lists are. -/
namespace Bide
open PySem
end Bide

set_option pp.maxSteps 400
set_option autoImplicit false
set_option linter.all false
set_option maxRecDepth 100000
set_option maxHeartbeats 4000000
/-! Limits of heights behind a row of news. -/
namespace Bide
open PySem
def mx (x : Int) : Option Int → Int
  | none => x
  | some l => if l > x then l else x
def mn (x : Int) : Option Int → Int
  | none => x
  | some h => if h < x then h else x
def clamp (x : Int) (lo hi : Option Int) : Int := mn (mx x lo) hi
/-! ### the law's -/
end Bide

set_option pp.maxSteps 400
set_option autoImplicit false
set_option linter.all false
set_option maxRecDepth 100000
set_option maxHeartbeats 4000000
/-! Limits: order, lengths, heights behind a row. -/
namespace Bide
open PySem
/-! ### lengths -/
/-! ### heights behind a row, by limits -/
def cl (x : Int) (p : Option Int × Option Int) : Int := clamp x p.1 p.2
end Bide

set_option pp.maxSteps 400
set_option autoImplicit false
set_option linter.all false
set_option maxRecDepth 100000
set_option maxHeartbeats 4000000
/-! Bounds by rows of lists, worked out over every third event. -/
namespace Bide
open PySem
def inn (p : List Edg) : List Int := p.dropLast.map (·.t)
theorem Pth.mem {E : List Edg} : ∀ {p : List Edg} {i j : Int}, Pth E i p j → ∀ e ∈ p, e ∈ E
  | [], i, j, _, e, h => by cases h
  | x :: p, i, j, ⟨h1, h2, h3⟩, e, h => by
    rcases List.mem_cons.mp h with rfl | h
    · exact h1
    · exact h3.mem e h
/-! ### the table of numbers -/
abbrev TB := Int → Int → Option Int
def upd (d : TB) (i j : Int) (v : Option Int) : TB := fun x y => if x = i ∧ y = j then v else d x y
theorem upd_at (d : TB) (i j : Int) (v : Option Int) : upd d i j v i j = v := if_pos ⟨rfl, rfl⟩
theorem upd_ne {d : TB} {i j x y : Int} {v : Option Int} (h : ¬ (x = i ∧ y = j)) : upd d i j v x y = d x y := if_neg h
theorem upd_same {d : TB} {i j : Int} {v : Option Int} (h : v = d i j) : upd d i j v = d := by
  funext x y
  by_cases hh : x = i ∧ y = j
  · rw [hh.1, hh.2, upd_at, h]
  · rw [upd_ne hh]
def lst : Option Int → Option Int → Option Int
  | none, y => y
  | some x, none => some x
  | some x, some y => some (if y < x then y else x)
/-! ### the rows of the table -/
theorem rng_pre {m : Nat} {pre suf : List Nat} {a : Nat} (h : List.range m = pre ++ a :: suf) : a = pre.length ∧ a < m := by
  have h1 : (List.range m)[pre.length]? = some a := by rw [h]; simp
  have hl : pre.length < m := by
    have := congrArg List.length h
    simp at this
    omega
  rw [List.getElem?_range hl] at h1
  cases h1
  exact ⟨rfl, hl⟩
end Bide

set_option pp.maxSteps 400
set_option autoImplicit false
set_option linter.all false
set_option maxRecDepth 100000
set_option maxHeartbeats 4000000
namespace Bide
open PySem
def rlD : D := .tuple [.int 0, .int 5, .int (-100), .int 100]
def nt1 : D := .tuple [.int 6, .tuple (List.replicate 12 rlD)]
def on1 (r : D) : D := .tuple [.int 2, .tuple [r]]
def iD (a b c d : Int) : D := .tuple [.int a, .int b, .int c, .int d]
def strD (s : String) : D := .str (Str.ofString s)
def odds : List D := [.tuple [.int 0, .tuple []], .tuple [.int 7, .tuple []], .tuple [.bool true, .tuple []], .tuple [.int 2, .list [iD 0 1 0 1]], .list [.int 2, .tuple []], .tuple [.int 6, .tuple (List.replicate 13 rlD)], .tuple [.int 2], .tuple [.int 2, .tuple [], .tuple []], .none, on1 (iD 0 2 0 1),
  on1 (iD 0 0 0 1), on1 (.tuple [.int 0, .int 1, .none, .none]), on1 (iD 0 1 (-101) 1), on1 (iD 0 1 0 101), on1 (.tuple [.int 0, .int 1, .int 0]),
  on1 (.tuple [.int 0, .bool true, .int 0, .int 1]), on1 (iD (-1) 0 0 1), on1 (.tuple [.int 0, .int 1, .bool true, .int 1]), on1 (.list [.int 0, .int 1, .int 0, .int 1]), on1 (.tuple [.int 0, .int 1, strD "0", .int 1]), .tuple [.int 2, .tuple [.int 0, .int 1]]]
def evs : List D := [.int 6, .int (-1), .none, .bool true, strD "0", .tuple [.int 0]]
def evs2 : List D := [.int 6, .int (-1), .none, .bool true]
def aprt : D := .tuple [.int 3, .tuple [.tuple [.int 0, .int 1, .int 3, .none], iD 1 2 0 0, .tuple [.int 2, .int 0, .int (-2), .none]]]
def okS (s : String) : FR := .ok (.v (strD s)) []
/-- what the law is told by a call -/
def tol (w : Int) (row : List D) : FR := (D_law_told.fn C36).run [.int w, .list row]
theorem g0 : tol 0 [nt1] = okS "" := by kernel_rfl
theorem g1 : tol 1 [nt1] = okS "" := by kernel_rfl
theorem g2 : tol 2 [nt1] = okS "" := by kernel_rfl
theorem g3 : tol 3 [nt1] = okS "" := by kernel_rfl
theorem g4 : tol 4 [nt1] = okS "" := by kernel_rfl
theorem g5 : tol 5 [nt1] = okS "" := by kernel_rfl
theorem g6 : tol 6 [nt1, .int 5, .int 0] = okS "" := by kernel_rfl
theorem g7 : tol 7 [nt1, .int 5, .int 0] = okS "" := by kernel_rfl
theorem n0 : odds.map (fun N => tol 0 [N]) = List.replicate 21 (okS "net") := by kernel_rfl
theorem n1 : odds.map (fun N => tol 1 [N]) = List.replicate 21 (okS "net") := by kernel_rfl
theorem n2 : odds.map (fun N => tol 2 [N]) = List.replicate 21 (okS "net") := by kernel_rfl
theorem n3 : odds.map (fun N => tol 3 [N]) = List.replicate 21 (okS "net") := by kernel_rfl
theorem n4 : odds.map (fun N => tol 4 [N]) = List.replicate 21 (okS "net") := by kernel_rfl
theorem n5 : odds.map (fun N => tol 5 [N]) = List.replicate 21 (okS "net") := by kernel_rfl
theorem n6 (x y : D) : odds.map (fun N => tol 6 [N, x, y]) = List.replicate 21 (okS "net") := by kernel_rfl
theorem n7 (x y : D) : odds.map (fun N => tol 7 [N, x, y]) = List.replicate 21 (okS "net") := by kernel_rfl
theorem sA6 (y : D) : evs.map (fun x => tol 6 [nt1, x, y]) = List.replicate 6 (okS "start") := by kernel_rfl
theorem sA7 (y : D) : evs.map (fun x => tol 7 [nt1, x, y]) = List.replicate 6 (okS "start") := by kernel_rfl
theorem a6 (y : D) : evs.map (fun x => tol 6 [aprt, x, y]) = List.replicate 6 (okS "start") := by kernel_rfl
theorem a7 (y : D) : evs.map (fun x => tol 7 [aprt, x, y]) = List.replicate 6 (okS "start") := by kernel_rfl
theorem e6 : evs2.map (fun y => tol 6 [nt1, .int 5, y]) = List.replicate 4 (okS "end") := by kernel_rfl
theorem e7 : evs2.map (fun y => tol 7 [nt1, .int 5, y]) = List.replicate 4 (okS "end") := by kernel_rfl
def notN : FR := .ok (.f (.l [strD "not", strD "net"])) []
theorem p0 : tol 0 [aprt] = okS "" := by kernel_rfl
theorem p1 : tol 1 [aprt] = notN := by kernel_rfl
theorem p2 : tol 2 [aprt] = okS "" := by kernel_rfl
theorem p3 : tol 3 [aprt] = okS "" := by kernel_rfl
theorem p4 : tol 4 [aprt] = okS "" := by kernel_rfl
theorem p5 : tol 5 [aprt] = okS "" := by kernel_rfl
theorem p6 : tol 6 [aprt, .int 0, .int 2] = notN := by kernel_rfl
theorem p7 : tol 7 [aprt, .int 0, .int 2] = okS "" := by kernel_rfl
theorem of_rep {α : Type} {f : D → α} {l : List D} {n : Nat} {a : α} (h : l.map f = List.replicate n a) : ∀ x ∈ l, f x = a := fun x hx => by
  have : f x ∈ l.map f := List.mem_map.mpr ⟨x, hx, rfl⟩
  rw [h] at this
  exact List.eq_of_mem_replicate this
def Sp_told (F : Fn) : Prop := F.io = [false, false] ∧ ∀ (w : Int) (row : List D), F.run [.int w, .list row] = tol w row
theorem told_ok (c : Cf) (h : c = C36) : Sp_told (D_law_told.fn c) := by
  subst h
  exact ⟨rfl, fun w row => rfl⟩
theorem evAt {xs : List D} {d : Int} (h0 : 0 ≤ d) (h1 : d < xs.length) : ∃ x, atD xs d = some x ∧ x ∈ xs := by
  rw [atD_nat h0, List.getElem?_eq_getElem (by omega)]
  exact ⟨_, rfl, List.getElem_mem _⟩
theorem sp_law_stream : Sp_stream (D_law_stream.fn C33) := stream_ok C33 
theorem sp_law_next : Sp_next (D_law_next.fn C34) := next_ok C34 
theorem sp_law_told : Sp_told (D_law_told.fn C36) := told_ok C36 rfl
theorem hp_law_stream : Has C37 "_law_stream" Sp_stream := ⟨_, rfl, sp_law_stream⟩
theorem hp_law_next : Has C37 "_law_next" Sp_next := ⟨_, rfl, sp_law_next⟩
theorem hp_law_told : Has C37 "_law_told" Sp_told := ⟨_, rfl, sp_law_told⟩
theorem law_true : ∀ ns : List Int, ns.length ≤ 63 → (D_law.fn C37).run [.dict [(.none, .list (ns.map PyData.int))]] = .ok (.v (.bool true)) [] := by
  intro ns _
  refine run_eq rfl ?_
  obtain ⟨F1, g1, o1, r1⟩ := hp_law_stream
  obtain ⟨F2, g2, o2, r2⟩ := hp_law_next
  obtain ⟨F3, g3, o3, r3⟩ := hp_law_told
  simp only [D_law]
  obtain ⟨st0, q1, k0⟩ := r1 ns
  generalize PyData.dict [(.none, .list (ns.map PyData.int))] = S at q1
  refine zDf (by simp [Def.fn,mkF,runF,startE,zAa,zAb,zAc,zAd,zAe,zAf,zAg,zAh,zAi,zAj,zAk,zAl,zAm,zAn,zAo,zAp,zAq,zAr,zAs,zAt,zAu,zAv,zAw,zAx,zAy,zAz,zA0,zA1,zA2,zA3,zA4,zA5,zA6,zA7,zA8,zA9,zBa,zBb,zBc,zBd,zBe,zBf,zBg,zBh,zBi,zBj,zBk,zBl,zBm,zBn,zBo,zBp,zBq,zBr,zBs,zBt,zBu,zBv,zBw,zBx,zBy,zBz,zB0,zB1,zB2,zB3,zB4,zB5,zB6,zB7,zB8,zB9,zCa,zCb,R.bind,OV.val,rd,stl,esc,escs,rds,isTy,truT_n,truT_b,truT_i,truT_l,truT_t,truT_s,truT_d,zCc,zCd,zCe,zCf,zCg,zCh,zCi,zCj,zCk,zCl,zCm,zCn,zCo,zCp,zCq,zCr,zCs,zCt,zCu,bop,blt,zCv,zCw,zCx,zCy,zCz,zC0,zC1,zC2,zC3,R.of,outsE,retR,putR,zC4,zC5,zC6,zC7,zC8,setVs,bindTg,lend,giveBack,ownL,putL,setAt,slcD,revD,asInt,List.replicate,g1,o1,q1]; first | done | rfl | exact ⟨rfl, rfl⟩ | (constructor <;> rfl)) ?_
  obtain ⟨st1, w, q2, k1, w0, w1⟩ := r2 st0 8 k0 (by omega) (by omega)
  refine zDf (by simp [Def.fn,mkF,runF,startE,zAa,zAb,zAc,zAd,zAe,zAf,zAg,zAh,zAi,zAj,zAk,zAl,zAm,zAn,zAo,zAp,zAq,zAr,zAs,zAt,zAu,zAv,zAw,zAx,zAy,zAz,zA0,zA1,zA2,zA3,zA4,zA5,zA6,zA7,zA8,zA9,zBa,zBb,zBc,zBd,zBe,zBf,zBg,zBh,zBi,zBj,zBk,zBl,zBm,zBn,zBo,zBp,zBq,zBr,zBs,zBt,zBu,zBv,zBw,zBx,zBy,zBz,zB0,zB1,zB2,zB3,zB4,zB5,zB6,zB7,zB8,zB9,zCa,zCb,R.bind,OV.val,rd,stl,esc,escs,rds,isTy,truT_n,truT_b,truT_i,truT_l,truT_t,truT_s,truT_d,zCc,zCd,zCe,zCf,zCg,zCh,zCi,zCj,zCk,zCl,zCm,zCn,zCo,zCp,zCq,zCr,zCs,zCt,zCu,bop,blt,zCv,zCw,zCx,zCy,zCz,zC0,zC1,zC2,zC3,R.of,outsE,retR,putR,zC4,zC5,zC6,zC7,zC8,setVs,bindTg,lend,giveBack,ownL,putL,setAt,slcD,revD,asInt,List.replicate,g2,o2,q2]; first | done | rfl | exact ⟨rfl, rfl⟩ | (constructor <;> rfl)) ?_
  refine zDf (e1 := [.sh S, .ow (.l st1), .sh (.int w), .sh rlD, .no, .no, .no, .no, .no, .no, .no, .no, .no, .no, .no]) (by kernel_rfl) ?_
  refine zDf (e1 := [.sh S, .ow (.l st1), .sh (.int w), .sh rlD, .sh nt1, .no, .no, .no, .no, .no, .no, .no, .no, .no, .no]) (by kernel_rfl) ?_
  refine zDf (e1 := [.sh S, .ow (.l st1), .sh (.int w), .sh rlD, .sh nt1, .ow (.l (odds.take 10)), .no, .no, .no, .no, .no, .no, .no, .no, .no]) (by kernel_rfl) ?_
  refine zDf (e1 := [.sh S, .ow (.l st1), .sh (.int w), .sh rlD, .sh nt1, .ow (.l (odds.take 15)), .no, .no, .no, .no, .no, .no, .no, .no, .no]) (by kernel_rfl) ?_
  refine zDf (e1 := [.sh S, .ow (.l st1), .sh (.int w), .sh rlD, .sh nt1, .ow (.l odds), .no, .no, .no, .no, .no, .no, .no, .no, .no]) (by kernel_rfl) ?_
  obtain ⟨st2, a, q3, k2, a0, a1⟩ := r2 st1 21 k1 (by omega) (by omega)
  obtain ⟨N, hNa, hN⟩ := evAt (xs := odds) a0 (by show a < 21; exact a1)
  refine zDf (e1 := [.sh S, .ow (.l st2), .sh (.int w), .sh rlD, .sh nt1, .ow (.l odds), .sh N, .no, .no, .no, .no, .no, .no, .no, .no]) (by simp [Def.fn,mkF,runF,startE,zAa,zAb,zAc,zAd,zAe,zAf,zAg,zAh,zAi,zAj,zAk,zAl,zAm,zAn,zAo,zAp,zAq,zAr,zAs,zAt,zAu,zAv,zAw,zAx,zAy,zAz,zA0,zA1,zA2,zA3,zA4,zA5,zA6,zA7,zA8,zA9,zBa,zBb,zBc,zBd,zBe,zBf,zBg,zBh,zBi,zBj,zBk,zBl,zBm,zBn,zBo,zBp,zBq,zBr,zBs,zBt,zBu,zBv,zBw,zBx,zBy,zBz,zB0,zB1,zB2,zB3,zB4,zB5,zB6,zB7,zB8,zB9,zCa,zCb,R.bind,OV.val,rd,stl,esc,escs,rds,isTy,truT_n,truT_b,truT_i,truT_l,truT_t,truT_s,truT_d,zCc,zCd,zCe,zCf,zCg,zCh,zCi,zCj,zCk,zCl,zCm,zCn,zCo,zCp,zCq,zCr,zCs,zCt,zCu,bop,blt,zCv,zCw,zCx,zCy,zCz,zC0,zC1,zC2,zC3,R.of,outsE,retR,putR,zC4,zC5,zC6,zC7,zC8,setVs,bindTg,lend,giveBack,ownL,putL,setAt,slcD,revD,asInt,List.replicate,g2,o2,q3,hNa]) ?_
  obtain ⟨st3, b, q4, k3, b0, b1⟩ := r2 st2 6 k2 (by omega) (by omega)
  obtain ⟨x, hxa, hx⟩ := evAt (xs := evs) b0 (by show b < 6; exact b1)
  have hxa : atD [PyData.int 6, PyData.int (-1), PyData.none, PyData.bool true, PyData.str (Str.ofString "0"), PyData.tuple [PyData.int 0]] b = some x := hxa
  refine zDf (e1 := [.sh S, .ow (.l st3), .sh (.int w), .sh rlD, .sh nt1, .ow (.l odds), .sh N, .sh x, .no, .no, .no, .no, .no, .no, .no]) (by simp [Def.fn,mkF,runF,startE,zAa,zAb,zAc,zAd,zAe,zAf,zAg,zAh,zAi,zAj,zAk,zAl,zAm,zAn,zAo,zAp,zAq,zAr,zAs,zAt,zAu,zAv,zAw,zAx,zAy,zAz,zA0,zA1,zA2,zA3,zA4,zA5,zA6,zA7,zA8,zA9,zBa,zBb,zBc,zBd,zBe,zBf,zBg,zBh,zBi,zBj,zBk,zBl,zBm,zBn,zBo,zBp,zBq,zBr,zBs,zBt,zBu,zBv,zBw,zBx,zBy,zBz,zB0,zB1,zB2,zB3,zB4,zB5,zB6,zB7,zB8,zB9,zCa,zCb,R.bind,OV.val,rd,stl,esc,escs,rds,isTy,truT_n,truT_b,truT_i,truT_l,truT_t,truT_s,truT_d,zCc,zCd,zCe,zCf,zCg,zCh,zCi,zCj,zCk,zCl,zCm,zCn,zCo,zCp,zCq,zCr,zCs,zCt,zCu,bop,blt,zCv,zCw,zCx,zCy,zCz,zC0,zC1,zC2,zC3,R.of,outsE,retR,putR,zC4,zC5,zC6,zC7,zC8,setVs,bindTg,lend,giveBack,ownL,putL,setAt,slcD,revD,asInt,List.replicate,line,g2,o2,q4,hxa]) ?_
  obtain ⟨st4, c, q5, k4, c0, c1⟩ := r2 st3 4 k3 (by omega) (by omega)
  obtain ⟨y, hya, hy⟩ := evAt (xs := evs2) c0 (by show c < 4; exact c1)
  have hya : atD [PyData.int 6, PyData.int (-1), PyData.none, PyData.bool true] c = some y := hya
  have ne0 : cop .ne (.str (Str.ofString "")) (.str (Str.ofString "")) = some false := by kernel_rfl
  have ne1 : cop .ne (.str (Str.ofString "net")) (.str (Str.ofString "net")) = some false := by kernel_rfl
  have ne2 : cop .ne (.str (Str.ofString "start")) (.str (Str.ofString "start")) = some false := by kernel_rfl
  have ne3 : cop .ne (.str (Str.ofString "end")) (.str (Str.ofString "end")) = some false := by kernel_rfl
  have eq2 : cop .eq (.str (Str.ofString "start")) (.str (Str.ofString "start")) = some true := by kernel_rfl
  have neL : cop .ne (.list [.str (Str.ofString "not"), .str (Str.ofString "net")]) (.list [.str (Str.ofString "not"), .str (Str.ofString "net")]) = some false := by kernel_rfl
  -- what each asks
  have hT : (w ≤ 5 ∧ tol w [nt1] = okS "" ∧ tol w [N] = okS "net" ∧ ((w ≠ 1 ∧ tol w [aprt] = okS "") ∨ (w = 1 ∧ tol w [aprt] = notN))) ∨
      (6 ≤ w ∧ tol w [nt1, .int 5, .int 0] = okS "" ∧ (∀ u v, tol w [N, u, v] = okS "net") ∧ (∀ v, tol w [nt1, x, v] = okS "start") ∧ tol w [nt1, .int 5, y] = okS "end" ∧ tol w [aprt, x, .int 0] = okS "start" ∧ ((w = 7 ∧ tol w [aprt, .int 0, .int 2] = okS "") ∨ (w = 6 ∧ tol w [aprt, .int 0, .int 2] = notN))) := by
    have : w = 0 ∨ w = 1 ∨ w = 2 ∨ w = 3 ∨ w = 4 ∨ w = 5 ∨ w = 6 ∨ w = 7 := by omega
    rcases this with rfl | rfl | rfl | rfl | rfl | rfl | rfl | rfl
    · exact .inl ⟨by omega, Bide.g0, of_rep n0 N hN, .inl ⟨by omega, p0⟩⟩
    · exact .inl ⟨by omega, Bide.g1, of_rep n1 N hN, .inr ⟨rfl, p1⟩⟩
    · exact .inl ⟨by omega, Bide.g2, of_rep n2 N hN, .inl ⟨by omega, p2⟩⟩
    · exact .inl ⟨by omega, Bide.g3, of_rep n3 N hN, .inl ⟨by omega, p3⟩⟩
    · exact .inl ⟨by omega, Bide.g4, of_rep n4 N hN, .inl ⟨by omega, p4⟩⟩
    · exact .inl ⟨by omega, Bide.g5, of_rep n5 N hN, .inl ⟨by omega, p5⟩⟩
    · exact .inr ⟨by omega, Bide.g6, fun u v => of_rep (n6 u v) N hN, fun v => of_rep (sA6 v) x hx, of_rep e6 y hy, of_rep (a6 _) x hx, .inr ⟨rfl, p6⟩⟩
    · exact .inr ⟨by omega, Bide.g7, fun u v => of_rep (n7 u v) N hN, fun v => of_rep (sA7 v) x hx, of_rep e7 y hy, of_rep (a7 _) x hx, .inl ⟨rfl, p7⟩⟩
  have hw := r3 w
  have s8 : ∀ {m : Int}, (if w > 5 then (3 : Int) else 1) = m → evS C37 (.asg 8 (.idx (.lst (.cons (.int 1) (.cons (.int 3) .nil))) (.blt .int (.cons (.cmp .gt (.var 2) (.int 5)) .nil)))) [.sh S, .ow (.l st3), .sh (.int w), .sh rlD, .sh nt1, .ow (.l odds), .sh N, .sh x, .no, .no, .no, .no, .no, .no, .no] = .ok .nx [.sh S, .ow (.l st3), .sh (.int w), .sh rlD, .sh nt1, .ow (.l odds), .sh N, .sh x, .sh (.int m), .no, .no, .no, .no, .no, .no] := fun {m} hm => by
    by_cases hc : 5 < w
    · rw [if_pos hc] at hm; subst hm
      simp [Def.fn,mkF,runF,startE,zAa,zAb,zAc,zAd,zAe,zAf,zAg,zAh,zAi,zAj,zAk,zAl,zAm,zAn,zAo,zAp,zAq,zAr,zAs,zAt,zAu,zAv,zAw,zAx,zAy,zAz,zA0,zA1,zA2,zA3,zA4,zA5,zA6,zA7,zA8,zA9,zBa,zBb,zBc,zBd,zBe,zBf,zBg,zBh,zBi,zBj,zBk,zBl,zBm,zBn,zBo,zBp,zBq,zBr,zBs,zBt,zBu,zBv,zBw,zBx,zBy,zBz,zB0,zB1,zB2,zB3,zB4,zB5,zB6,zB7,zB8,zB9,zCa,zCb,R.bind,OV.val,rd,stl,esc,escs,rds,isTy,truT_n,truT_b,truT_i,truT_l,truT_t,truT_s,truT_d,zCc,zCd,zCe,zCf,zCg,zCh,zCi,zCj,zCk,zCl,zCm,zCn,zCo,zCp,zCq,zCr,zCs,zCt,zCu,bop,blt,zCv,zCw,zCx,zCy,zCz,zC0,zC1,zC2,zC3,R.of,outsE,retR,putR,zC4,zC5,zC6,zC7,zC8,setVs,bindTg,lend,giveBack,ownL,putL,setAt,slcD,revD,asInt,List.replicate,line,hc]
    · rw [if_neg hc] at hm; subst hm
      simp [Def.fn,mkF,runF,startE,zAa,zAb,zAc,zAd,zAe,zAf,zAg,zAh,zAi,zAj,zAk,zAl,zAm,zAn,zAo,zAp,zAq,zAr,zAs,zAt,zAu,zAv,zAw,zAx,zAy,zAz,zA0,zA1,zA2,zA3,zA4,zA5,zA6,zA7,zA8,zA9,zBa,zBb,zBc,zBd,zBe,zBf,zBg,zBh,zBi,zBj,zBk,zBl,zBm,zBn,zBo,zBp,zBq,zBr,zBs,zBt,zBu,zBv,zBw,zBx,zBy,zBz,zB0,zB1,zB2,zB3,zB4,zB5,zB6,zB7,zB8,zB9,zCa,zCb,R.bind,OV.val,rd,stl,esc,escs,rds,isTy,truT_n,truT_b,truT_i,truT_l,truT_t,truT_s,truT_d,zCc,zCd,zCe,zCf,zCg,zCh,zCi,zCj,zCk,zCl,zCm,zCn,zCo,zCp,zCq,zCr,zCs,zCt,zCu,bop,blt,zCv,zCw,zCx,zCy,zCz,zC0,zC1,zC2,zC3,R.of,outsE,retR,putR,zC4,zC5,zC6,zC7,zC8,setVs,bindTg,lend,giveBack,ownL,putL,setAt,slcD,revD,asInt,List.replicate,line,hc]
  rcases hT with ⟨w5, tg, tn, ta⟩ | ⟨w6, tg, tn, ts, te, tx, ta⟩
  · rw [← hw] at tg tn
    unfold okS strD at tg tn
    refine zDf (s8 (if_neg (by omega))) ?_
    refine zDf (e1 := [.sh S, .ow (.l st3), .sh (.int w), .sh rlD, .sh nt1, .ow (.l odds), .sh N, .sh x, .sh (.int 1), .ow (.l [strD "net"]), .no, .no, .no, .no, .no]) (by kernel_rfl) ?_
    refine zDf (e1 := [.sh S, .ow (.l st3), .sh (.int w), .sh rlD, .sh nt1, .ow (.l odds), .sh N, .sh x, .sh (.int 1), .ow (.l [strD "net"]), .ow (.l [nt1]), .no, .no, .no, .no]) (by kernel_rfl) ?_
    refine zDf (e1 := [.sh S, .ow (.l st4), .sh (.int w), .sh rlD, .sh nt1, .ow (.l odds), .sh N, .sh x, .sh (.int 1), .ow (.l [strD "net"]), .ow (.l [nt1]), .ow (.l [N]), .no, .no, .no]) (by simp [Def.fn,mkF,runF,startE,zAa,zAb,zAc,zAd,zAe,zAf,zAg,zAh,zAi,zAj,zAk,zAl,zAm,zAn,zAo,zAp,zAq,zAr,zAs,zAt,zAu,zAv,zAw,zAx,zAy,zAz,zA0,zA1,zA2,zA3,zA4,zA5,zA6,zA7,zA8,zA9,zBa,zBb,zBc,zBd,zBe,zBf,zBg,zBh,zBi,zBj,zBk,zBl,zBm,zBn,zBo,zBp,zBq,zBr,zBs,zBt,zBu,zBv,zBw,zBx,zBy,zBz,zB0,zB1,zB2,zB3,zB4,zB5,zB6,zB7,zB8,zB9,zCa,zCb,R.bind,OV.val,rd,stl,esc,escs,rds,isTy,truT_n,truT_b,truT_i,truT_l,truT_t,truT_s,truT_d,zCc,zCd,zCe,zCf,zCg,zCh,zCi,zCj,zCk,zCl,zCm,zCn,zCo,zCp,zCq,zCr,zCs,zCt,zCu,bop,blt,zCv,zCw,zCx,zCy,zCz,zC0,zC1,zC2,zC3,R.of,outsE,retR,putR,zC4,zC5,zC6,zC7,zC8,setVs,bindTg,lend,giveBack,ownL,putL,setAt,slcD,revD,asInt,List.replicate,line,g2,o2,q5,hya,cutL,cutN]) ?_
    refine zDh (e1 := [.sh S, .ow (.l st4), .sh (.int w), .sh rlD, .sh nt1, .ow (.l odds), .sh N, .sh x, .sh (.int 1), .ow (.l [strD "net"]), .sh (.list [nt1]), .ow (.l [N]), .no, .no, .no]) (by simp [Def.fn,mkF,runF,startE,zAa,zAb,zAc,zAd,zAe,zAf,zAg,zAh,zAi,zAj,zAk,zAl,zAm,zAn,zAo,zAp,zAq,zAr,zAs,zAt,zAu,zAv,zAw,zAx,zAy,zAz,zA0,zA1,zA2,zA3,zA4,zA5,zA6,zA7,zA8,zA9,zBa,zBb,zBc,zBd,zBe,zBf,zBg,zBh,zBi,zBj,zBk,zBl,zBm,zBn,zBo,zBp,zBq,zBr,zBs,zBt,zBu,zBv,zBw,zBx,zBy,zBz,zB0,zB1,zB2,zB3,zB4,zB5,zB6,zB7,zB8,zB9,zCa,zCb,R.bind,OV.val,rd,stl,esc,escs,rds,isTy,truT_n,truT_b,truT_i,truT_l,truT_t,truT_s,truT_d,zCc,zCd,zCe,zCf,zCg,zCh,zCi,zCj,zCk,zCl,zCm,zCn,zCo,zCp,zCq,zCr,zCs,zCt,zCu,bop,blt,zCv,zCw,zCx,zCy,zCz,zC0,zC1,zC2,zC3,R.of,outsE,retR,putR,zC4,zC5,zC6,zC7,zC8,setVs,bindTg,lend,giveBack,ownL,putL,setAt,slcD,revD,asInt,List.replicate,g3,o3,tg,ne0]) (zDg ?_)
    refine wp_for (as := List.range 1) (enc := fun (i : Nat) => .int (i : Int)) (fun pre ev => ∃ u : SV, u.free ∧ ev = [.sh S, .ow (.l st4), .sh (.int w), .sh rlD, .sh nt1, .ow (.l odds), .sh N, .sh x, .sh (.int 1), .ow (.l [strD "net"]), .sh (.list [nt1]), .ow (.l [N]), u, .no, .no]) (e1 := [.sh S, .ow (.l st4), .sh (.int w), .sh rlD, .sh nt1, .ow (.l odds), .sh N, .sh x, .sh (.int 1), .ow (.l [strD "net"]), .sh (.list [nt1]), .ow (.l [N]), .no, .no, .no]) (by kernel_rfl) ⟨.no, trivial, rfl⟩ ?_ ?_
    · rintro pre i suf has ev ⟨u, hu, rfl⟩
      obtain ⟨_, hi⟩ := rng_pre has
      obtain rfl : i = 0 := by omega
      have io : u.ioB = false := by cases u <;> first | rfl | cases hu
      refine ⟨[.sh S, .ow (.l st4), .sh (.int w), .sh rlD, .sh nt1, .ow (.l odds), .sh N, .sh x, .sh (.int 1), .ow (.l [strD "net"]), .sh (.list [nt1]), .ow (.l [N]), .sh (.int 0), .no, .no], by simp [Def.fn,mkF,runF,startE,zAa,zAb,zAc,zAd,zAe,zAf,zAg,zAh,zAi,zAj,zAk,zAl,zAm,zAn,zAo,zAp,zAq,zAr,zAs,zAt,zAu,zAv,zAw,zAx,zAy,zAz,zA0,zA1,zA2,zA3,zA4,zA5,zA6,zA7,zA8,zA9,zBa,zBb,zBc,zBd,zBe,zBf,zBg,zBh,zBi,zBj,zBk,zBl,zBm,zBn,zBo,zBp,zBq,zBr,zBs,zBt,zBu,zBv,zBw,zBx,zBy,zBz,zB0,zB1,zB2,zB3,zB4,zB5,zB6,zB7,zB8,zB9,zCa,zCb,R.bind,OV.val,rd,stl,esc,escs,rds,isTy,truT_n,truT_b,truT_i,truT_l,truT_t,truT_s,truT_d,zCc,zCd,zCe,zCf,zCg,zCh,zCi,zCj,zCk,zCl,zCm,zCn,zCo,zCp,zCq,zCr,zCs,zCt,zCu,bop,blt,zCv,zCw,zCx,zCy,zCz,zC0,zC1,zC2,zC3,R.of,outsE,retR,putR,zC4,zC5,zC6,zC7,zC8,setVs,bindTg,lend,giveBack,ownL,putL,setAt,slcD,revD,asInt,List.replicate,io], ?_⟩
      refine zDh (e1 := [.sh S, .ow (.l st4), .sh (.int w), .sh rlD, .sh nt1, .ow (.l odds), .sh N, .sh x, .sh (.int 1), .ow (.l [strD "net"]), .sh (.list [nt1]), .ow (.l [N]), .sh (.int 0), .no, .no]) (by simp [Def.fn,mkF,runF,startE,zAa,zAb,zAc,zAd,zAe,zAf,zAg,zAh,zAi,zAj,zAk,zAl,zAm,zAn,zAo,zAp,zAq,zAr,zAs,zAt,zAu,zAv,zAw,zAx,zAy,zAz,zA0,zA1,zA2,zA3,zA4,zA5,zA6,zA7,zA8,zA9,zBa,zBb,zBc,zBd,zBe,zBf,zBg,zBh,zBi,zBj,zBk,zBl,zBm,zBn,zBo,zBp,zBq,zBr,zBs,zBt,zBu,zBv,zBw,zBx,zBy,zBz,zB0,zB1,zB2,zB3,zB4,zB5,zB6,zB7,zB8,zB9,zCa,zCb,R.bind,OV.val,rd,stl,esc,escs,rds,isTy,truT_n,truT_b,truT_i,truT_l,truT_t,truT_s,truT_d,zCc,zCd,zCe,zCf,zCg,zCh,zCi,zCj,zCk,zCl,zCm,zCn,zCo,zCp,zCq,zCr,zCs,zCt,zCu,bop,blt,zCv,zCw,zCx,zCy,zCz,zC0,zC1,zC2,zC3,R.of,outsE,retR,putR,zC4,zC5,zC6,zC7,zC8,setVs,bindTg,lend,giveBack,ownL,putL,setAt,slcD,revD,asInt,List.replicate,line,cutL,cutN,g3,o3,tn,strD,ne1]) (zDg ?_)
      exact zDh (e1 := [.sh S, .ow (.l st4), .sh (.int w), .sh rlD, .sh nt1, .ow (.l odds), .sh N, .sh x, .sh (.int 1), .ow (.l [strD "net"]), .sh (.list [nt1]), .ow (.l [N]), .sh (.int 0), .no, .no]) (by simp [Def.fn,mkF,runF,startE,zAa,zAb,zAc,zAd,zAe,zAf,zAg,zAh,zAi,zAj,zAk,zAl,zAm,zAn,zAo,zAp,zAq,zAr,zAs,zAt,zAu,zAv,zAw,zAx,zAy,zAz,zA0,zA1,zA2,zA3,zA4,zA5,zA6,zA7,zA8,zA9,zBa,zBb,zBc,zBd,zBe,zBf,zBg,zBh,zBi,zBj,zBk,zBl,zBm,zBn,zBo,zBp,zBq,zBr,zBs,zBt,zBu,zBv,zBw,zBx,zBy,zBz,zB0,zB1,zB2,zB3,zB4,zB5,zB6,zB7,zB8,zB9,zCa,zCb,R.bind,OV.val,rd,stl,esc,escs,rds,isTy,truT_n,truT_b,truT_i,truT_l,truT_t,truT_s,truT_d,zCc,zCd,zCe,zCf,zCg,zCh,zCi,zCj,zCk,zCl,zCm,zCn,zCo,zCp,zCq,zCr,zCs,zCt,zCu,bop,blt,zCv,zCw,zCx,zCy,zCz,zC0,zC1,zC2,zC3,R.of,outsE,retR,putR,zC4,zC5,zC6,zC7,zC8,setVs,bindTg,lend,giveBack,ownL,putL,setAt,slcD,revD,asInt,List.replicate,line,cutL,cutN,g3,o3,tn,strD,ne1]) (zDg (zDg ⟨.sh (.int 0), trivial, rfl⟩))
    rintro ev ⟨u, hu, rfl⟩
    have io : u.ioB = false := by cases u <;> first | rfl | cases hu
    refine zDf (e1 := [.sh S, .ow (.l st4), .sh (.int w), .sh rlD, .sh nt1, .ow (.l odds), .sh N, .sh x, .sh (.int 1), .ow (.l [strD "net"]), .sh (.list [nt1]), .ow (.l [N]), u, .sh aprt, .no]) (by kernel_rfl) ?_
    rcases ta with ⟨wn, ta⟩ | ⟨wn, ta⟩
    · rw [← hw] at ta
      unfold okS strD at ta
      have hin : dIn (.int w) (.list [.int 1, .int 6]) = some false := by
        have : w = 0 ∨ w = 2 ∨ w = 3 ∨ w = 4 ∨ w = 5 := by omega
        rcases this with rfl | rfl | rfl | rfl | rfl <;> kernel_rfl
      refine zDf (e1 := [.sh S, .ow (.l st4), .sh (.int w), .sh rlD, .sh nt1, .ow (.l odds), .sh N, .sh x, .sh (.int 1), .ow (.l [strD "net"]), .sh (.list [nt1]), .ow (.l [N]), u, .sh aprt, .sh (strD "")]) (by simp [Def.fn,mkF,runF,startE,zAa,zAb,zAc,zAd,zAe,zAf,zAg,zAh,zAi,zAj,zAk,zAl,zAm,zAn,zAo,zAp,zAq,zAr,zAs,zAt,zAu,zAv,zAw,zAx,zAy,zAz,zA0,zA1,zA2,zA3,zA4,zA5,zA6,zA7,zA8,zA9,zBa,zBb,zBc,zBd,zBe,zBf,zBg,zBh,zBi,zBj,zBk,zBl,zBm,zBn,zBo,zBp,zBq,zBr,zBs,zBt,zBu,zBv,zBw,zBx,zBy,zBz,zB0,zB1,zB2,zB3,zB4,zB5,zB6,zB7,zB8,zB9,zCa,zCb,R.bind,OV.val,rd,stl,esc,escs,rds,isTy,truT_n,truT_b,truT_i,truT_l,truT_t,truT_s,truT_d,zCc,zCd,zCe,zCf,zCg,zCh,zCi,zCj,zCk,zCl,zCm,zCn,zCo,zCp,zCq,zCr,zCs,zCt,zCu,bop,blt,zCv,zCw,zCx,zCy,zCz,zC0,zC1,zC2,zC3,R.of,outsE,retR,putR,zC4,zC5,zC6,zC7,zC8,setVs,bindTg,lend,giveBack,ownL,putL,setAt,slcD,revD,asInt,List.replicate,line,hin,strD]) ?_
      refine zDh (e1 := [.sh S, .ow (.l st4), .sh (.int w), .sh rlD, .sh nt1, .ow (.l odds), .sh N, .sh x, .sh (.int 1), .ow (.l [strD "net"]), .sh (.list [nt1]), .ow (.l [N]), u, .sh aprt, .sh (strD "")]) (by simp [Def.fn,mkF,runF,startE,zAa,zAb,zAc,zAd,zAe,zAf,zAg,zAh,zAi,zAj,zAk,zAl,zAm,zAn,zAo,zAp,zAq,zAr,zAs,zAt,zAu,zAv,zAw,zAx,zAy,zAz,zA0,zA1,zA2,zA3,zA4,zA5,zA6,zA7,zA8,zA9,zBa,zBb,zBc,zBd,zBe,zBf,zBg,zBh,zBi,zBj,zBk,zBl,zBm,zBn,zBo,zBp,zBq,zBr,zBs,zBt,zBu,zBv,zBw,zBx,zBy,zBz,zB0,zB1,zB2,zB3,zB4,zB5,zB6,zB7,zB8,zB9,zCa,zCb,R.bind,OV.val,rd,stl,esc,escs,rds,isTy,truT_n,truT_b,truT_i,truT_l,truT_t,truT_s,truT_d,zCc,zCd,zCe,zCf,zCg,zCh,zCi,zCj,zCk,zCl,zCm,zCn,zCo,zCp,zCq,zCr,zCs,zCt,zCu,bop,blt,zCv,zCw,zCx,zCy,zCz,zC0,zC1,zC2,zC3,R.of,outsE,retR,putR,zC4,zC5,zC6,zC7,zC8,setVs,bindTg,lend,giveBack,ownL,putL,setAt,slcD,revD,asInt,List.replicate,line,cutL,cutN,g3,o3,ta,strD,ne0]) (zDg ?_)
      refine zDj (by simp [Def.fn,mkF,runF,startE,zAa,zAb,zAc,zAd,zAe,zAf,zAg,zAh,zAi,zAj,zAk,zAl,zAm,zAn,zAo,zAp,zAq,zAr,zAs,zAt,zAu,zAv,zAw,zAx,zAy,zAz,zA0,zA1,zA2,zA3,zA4,zA5,zA6,zA7,zA8,zA9,zBa,zBb,zBc,zBd,zBe,zBf,zBg,zBh,zBi,zBj,zBk,zBl,zBm,zBn,zBo,zBp,zBq,zBr,zBs,zBt,zBu,zBv,zBw,zBx,zBy,zBz,zB0,zB1,zB2,zB3,zB4,zB5,zB6,zB7,zB8,zB9,zCa,zCb,R.bind,OV.val,rd,stl,esc,escs,rds,isTy,truT_n,truT_b,truT_i,truT_l,truT_t,truT_s,truT_d,zCc,zCd,zCe,zCf,zCg,zCh,zCi,zCj,zCk,zCl,zCm,zCn,zCo,zCp,zCq,zCr,zCs,zCt,zCu,bop,blt,zCv,zCw,zCx,zCy,zCz,zC0,zC1,zC2,zC3,R.of,outsE,retR,putR,zC4,zC5,zC6,zC7,zC8,setVs,bindTg,lend,giveBack,ownL,putL,setAt,slcD,revD,asInt,List.replicate]; first | done | rfl | exact ⟨rfl, rfl⟩ | (constructor <;> rfl)) (by simp [Def.fn,mkF,runF,startE,zAa,zAb,zAc,zAd,zAe,zAf,zAg,zAh,zAi,zAj,zAk,zAl,zAm,zAn,zAo,zAp,zAq,zAr,zAs,zAt,zAu,zAv,zAw,zAx,zAy,zAz,zA0,zA1,zA2,zA3,zA4,zA5,zA6,zA7,zA8,zA9,zBa,zBb,zBc,zBd,zBe,zBf,zBg,zBh,zBi,zBj,zBk,zBl,zBm,zBn,zBo,zBp,zBq,zBr,zBs,zBt,zBu,zBv,zBw,zBx,zBy,zBz,zB0,zB1,zB2,zB3,zB4,zB5,zB6,zB7,zB8,zB9,zCa,zCb,R.bind,OV.val,rd,stl,esc,escs,rds,isTy,truT_n,truT_b,truT_i,truT_l,truT_t,truT_s,truT_d,zCc,zCd,zCe,zCf,zCg,zCh,zCi,zCj,zCk,zCl,zCm,zCn,zCo,zCp,zCq,zCr,zCs,zCt,zCu,bop,blt,zCv,zCw,zCx,zCy,zCz,zC0,zC1,zC2,zC3,R.of,outsE,retR,putR,zC4,zC5,zC6,zC7,zC8,setVs,bindTg,lend,giveBack,ownL,putL,setAt,slcD,revD,asInt,List.replicate]; first | done | rfl | exact ⟨rfl, rfl⟩ | (constructor <;> rfl)) ?_
      exact ⟨[], rfl, rfl, rfl⟩
    · rw [← hw] at ta
      unfold notN strD at ta
      subst wn
      refine zDf (e1 := [.sh S, .ow (.l st4), .sh (.int 1), .sh rlD, .sh nt1, .ow (.l odds), .sh N, .sh x, .sh (.int 1), .ow (.l [strD "net"]), .sh (.list [nt1]), .ow (.l [N]), u, .sh aprt, .sh (.list [strD "not", strD "net"])]) (by kernel_rfl) ?_
      refine zDh (e1 := [.sh S, .ow (.l st4), .sh (.int 1), .sh rlD, .sh nt1, .ow (.l odds), .sh N, .sh x, .sh (.int 1), .ow (.l [strD "net"]), .sh (.list [nt1]), .ow (.l [N]), u, .sh aprt, .sh (.list [strD "not", strD "net"])]) (by simp [Def.fn,mkF,runF,startE,zAa,zAb,zAc,zAd,zAe,zAf,zAg,zAh,zAi,zAj,zAk,zAl,zAm,zAn,zAo,zAp,zAq,zAr,zAs,zAt,zAu,zAv,zAw,zAx,zAy,zAz,zA0,zA1,zA2,zA3,zA4,zA5,zA6,zA7,zA8,zA9,zBa,zBb,zBc,zBd,zBe,zBf,zBg,zBh,zBi,zBj,zBk,zBl,zBm,zBn,zBo,zBp,zBq,zBr,zBs,zBt,zBu,zBv,zBw,zBx,zBy,zBz,zB0,zB1,zB2,zB3,zB4,zB5,zB6,zB7,zB8,zB9,zCa,zCb,R.bind,OV.val,rd,stl,esc,escs,rds,isTy,truT_n,truT_b,truT_i,truT_l,truT_t,truT_s,truT_d,zCc,zCd,zCe,zCf,zCg,zCh,zCi,zCj,zCk,zCl,zCm,zCn,zCo,zCp,zCq,zCr,zCs,zCt,zCu,bop,blt,zCv,zCw,zCx,zCy,zCz,zC0,zC1,zC2,zC3,R.of,outsE,retR,putR,zC4,zC5,zC6,zC7,zC8,setVs,bindTg,lend,giveBack,ownL,putL,setAt,slcD,revD,asInt,List.replicate,line,cutL,cutN,g3,o3,ta,strD,neL]) (zDg ?_)
      refine zDj (by simp [Def.fn,mkF,runF,startE,zAa,zAb,zAc,zAd,zAe,zAf,zAg,zAh,zAi,zAj,zAk,zAl,zAm,zAn,zAo,zAp,zAq,zAr,zAs,zAt,zAu,zAv,zAw,zAx,zAy,zAz,zA0,zA1,zA2,zA3,zA4,zA5,zA6,zA7,zA8,zA9,zBa,zBb,zBc,zBd,zBe,zBf,zBg,zBh,zBi,zBj,zBk,zBl,zBm,zBn,zBo,zBp,zBq,zBr,zBs,zBt,zBu,zBv,zBw,zBx,zBy,zBz,zB0,zB1,zB2,zB3,zB4,zB5,zB6,zB7,zB8,zB9,zCa,zCb,R.bind,OV.val,rd,stl,esc,escs,rds,isTy,truT_n,truT_b,truT_i,truT_l,truT_t,truT_s,truT_d,zCc,zCd,zCe,zCf,zCg,zCh,zCi,zCj,zCk,zCl,zCm,zCn,zCo,zCp,zCq,zCr,zCs,zCt,zCu,bop,blt,zCv,zCw,zCx,zCy,zCz,zC0,zC1,zC2,zC3,R.of,outsE,retR,putR,zC4,zC5,zC6,zC7,zC8,setVs,bindTg,lend,giveBack,ownL,putL,setAt,slcD,revD,asInt,List.replicate]; first | done | rfl | exact ⟨rfl, rfl⟩ | (constructor <;> rfl)) (by simp [Def.fn,mkF,runF,startE,zAa,zAb,zAc,zAd,zAe,zAf,zAg,zAh,zAi,zAj,zAk,zAl,zAm,zAn,zAo,zAp,zAq,zAr,zAs,zAt,zAu,zAv,zAw,zAx,zAy,zAz,zA0,zA1,zA2,zA3,zA4,zA5,zA6,zA7,zA8,zA9,zBa,zBb,zBc,zBd,zBe,zBf,zBg,zBh,zBi,zBj,zBk,zBl,zBm,zBn,zBo,zBp,zBq,zBr,zBs,zBt,zBu,zBv,zBw,zBx,zBy,zBz,zB0,zB1,zB2,zB3,zB4,zB5,zB6,zB7,zB8,zB9,zCa,zCb,R.bind,OV.val,rd,stl,esc,escs,rds,isTy,truT_n,truT_b,truT_i,truT_l,truT_t,truT_s,truT_d,zCc,zCd,zCe,zCf,zCg,zCh,zCi,zCj,zCk,zCl,zCm,zCn,zCo,zCp,zCq,zCr,zCs,zCt,zCu,bop,blt,zCv,zCw,zCx,zCy,zCz,zC0,zC1,zC2,zC3,R.of,outsE,retR,putR,zC4,zC5,zC6,zC7,zC8,setVs,bindTg,lend,giveBack,ownL,putL,setAt,slcD,revD,asInt,List.replicate]; first | done | rfl | exact ⟨rfl, rfl⟩ | (constructor <;> rfl)) ?_
      exact ⟨[], rfl, rfl, rfl⟩
  · rw [← hw] at tg te tx
    have tn := fun u v => (hw [N, u, v]).trans (tn u v)
    have ts := fun v => (hw [nt1, x, v]).trans (ts v)
    unfold okS strD at tg tn ts te tx
    refine zDf (s8 (if_pos (by omega))) ?_
    refine zDf (e1 := [.sh S, .ow (.l st3), .sh (.int w), .sh rlD, .sh nt1, .ow (.l odds), .sh N, .sh x, .sh (.int 3), .ow (.l [strD "net", strD "start", strD "end"]), .no, .no, .no, .no, .no]) (by kernel_rfl) ?_
    refine zDf (e1 := [.sh S, .ow (.l st3), .sh (.int w), .sh rlD, .sh nt1, .ow (.l odds), .sh N, .sh x, .sh (.int 3), .ow (.l [strD "net", strD "start", strD "end"]), .ow (.l [nt1, .int 5, .int 0]), .no, .no, .no, .no]) (by kernel_rfl) ?_
    refine zDf (e1 := [.sh S, .ow (.l st4), .sh (.int w), .sh rlD, .sh nt1, .ow (.l odds), .sh N, .sh x, .sh (.int 3), .ow (.l [strD "net", strD "start", strD "end"]), .ow (.l [nt1, .int 5, .int 0]), .ow (.l [N, x, y]), .no, .no, .no]) (by simp [Def.fn,mkF,runF,startE,zAa,zAb,zAc,zAd,zAe,zAf,zAg,zAh,zAi,zAj,zAk,zAl,zAm,zAn,zAo,zAp,zAq,zAr,zAs,zAt,zAu,zAv,zAw,zAx,zAy,zAz,zA0,zA1,zA2,zA3,zA4,zA5,zA6,zA7,zA8,zA9,zBa,zBb,zBc,zBd,zBe,zBf,zBg,zBh,zBi,zBj,zBk,zBl,zBm,zBn,zBo,zBp,zBq,zBr,zBs,zBt,zBu,zBv,zBw,zBx,zBy,zBz,zB0,zB1,zB2,zB3,zB4,zB5,zB6,zB7,zB8,zB9,zCa,zCb,R.bind,OV.val,rd,stl,esc,escs,rds,isTy,truT_n,truT_b,truT_i,truT_l,truT_t,truT_s,truT_d,zCc,zCd,zCe,zCf,zCg,zCh,zCi,zCj,zCk,zCl,zCm,zCn,zCo,zCp,zCq,zCr,zCs,zCt,zCu,bop,blt,zCv,zCw,zCx,zCy,zCz,zC0,zC1,zC2,zC3,R.of,outsE,retR,putR,zC4,zC5,zC6,zC7,zC8,setVs,bindTg,lend,giveBack,ownL,putL,setAt,slcD,revD,asInt,List.replicate,line,g2,o2,q5,hya,cutL,cutN]) ?_
    refine zDh (e1 := [.sh S, .ow (.l st4), .sh (.int w), .sh rlD, .sh nt1, .ow (.l odds), .sh N, .sh x, .sh (.int 3), .ow (.l [strD "net", strD "start", strD "end"]), .sh (.list [nt1, .int 5, .int 0]), .ow (.l [N, x, y]), .no, .no, .no]) (by simp [Def.fn,mkF,runF,startE,zAa,zAb,zAc,zAd,zAe,zAf,zAg,zAh,zAi,zAj,zAk,zAl,zAm,zAn,zAo,zAp,zAq,zAr,zAs,zAt,zAu,zAv,zAw,zAx,zAy,zAz,zA0,zA1,zA2,zA3,zA4,zA5,zA6,zA7,zA8,zA9,zBa,zBb,zBc,zBd,zBe,zBf,zBg,zBh,zBi,zBj,zBk,zBl,zBm,zBn,zBo,zBp,zBq,zBr,zBs,zBt,zBu,zBv,zBw,zBx,zBy,zBz,zB0,zB1,zB2,zB3,zB4,zB5,zB6,zB7,zB8,zB9,zCa,zCb,R.bind,OV.val,rd,stl,esc,escs,rds,isTy,truT_n,truT_b,truT_i,truT_l,truT_t,truT_s,truT_d,zCc,zCd,zCe,zCf,zCg,zCh,zCi,zCj,zCk,zCl,zCm,zCn,zCo,zCp,zCq,zCr,zCs,zCt,zCu,bop,blt,zCv,zCw,zCx,zCy,zCz,zC0,zC1,zC2,zC3,R.of,outsE,retR,putR,zC4,zC5,zC6,zC7,zC8,setVs,bindTg,lend,giveBack,ownL,putL,setAt,slcD,revD,asInt,List.replicate,g3,o3,tg,ne0]) (zDg ?_)
    refine wp_for (as := List.range 3) (enc := fun (i : Nat) => .int (i : Int)) (fun pre ev => ∃ u : SV, u.free ∧ ev = [.sh S, .ow (.l st4), .sh (.int w), .sh rlD, .sh nt1, .ow (.l odds), .sh N, .sh x, .sh (.int 3), .ow (.l [strD "net", strD "start", strD "end"]), .sh (.list [nt1, .int 5, .int 0]), .ow (.l [N, x, y]), u, .no, .no]) (e1 := [.sh S, .ow (.l st4), .sh (.int w), .sh rlD, .sh nt1, .ow (.l odds), .sh N, .sh x, .sh (.int 3), .ow (.l [strD "net", strD "start", strD "end"]), .sh (.list [nt1, .int 5, .int 0]), .ow (.l [N, x, y]), .no, .no, .no]) (by kernel_rfl) ⟨.no, trivial, rfl⟩ ?_ ?_
    · rintro pre i suf has ev ⟨u, hu, rfl⟩
      obtain ⟨_, hi⟩ := rng_pre has
      have io : u.ioB = false := by cases u <;> first | rfl | cases hu
      have : i = 0 ∨ i = 1 ∨ i = 2 := by omega
      rcases this with rfl | rfl | rfl
      · refine ⟨[.sh S, .ow (.l st4), .sh (.int w), .sh rlD, .sh nt1, .ow (.l odds), .sh N, .sh x, .sh (.int 3), .ow (.l [strD "net", strD "start", strD "end"]), .sh (.list [nt1, .int 5, .int 0]), .ow (.l [N, x, y]), .sh (.int 0), .no, .no], by simp [Def.fn,mkF,runF,startE,zAa,zAb,zAc,zAd,zAe,zAf,zAg,zAh,zAi,zAj,zAk,zAl,zAm,zAn,zAo,zAp,zAq,zAr,zAs,zAt,zAu,zAv,zAw,zAx,zAy,zAz,zA0,zA1,zA2,zA3,zA4,zA5,zA6,zA7,zA8,zA9,zBa,zBb,zBc,zBd,zBe,zBf,zBg,zBh,zBi,zBj,zBk,zBl,zBm,zBn,zBo,zBp,zBq,zBr,zBs,zBt,zBu,zBv,zBw,zBx,zBy,zBz,zB0,zB1,zB2,zB3,zB4,zB5,zB6,zB7,zB8,zB9,zCa,zCb,R.bind,OV.val,rd,stl,esc,escs,rds,isTy,truT_n,truT_b,truT_i,truT_l,truT_t,truT_s,truT_d,zCc,zCd,zCe,zCf,zCg,zCh,zCi,zCj,zCk,zCl,zCm,zCn,zCo,zCp,zCq,zCr,zCs,zCt,zCu,bop,blt,zCv,zCw,zCx,zCy,zCz,zC0,zC1,zC2,zC3,R.of,outsE,retR,putR,zC4,zC5,zC6,zC7,zC8,setVs,bindTg,lend,giveBack,ownL,putL,setAt,slcD,revD,asInt,List.replicate,io], ?_⟩
        refine zDh (e1 := [.sh S, .ow (.l st4), .sh (.int w), .sh rlD, .sh nt1, .ow (.l odds), .sh N, .sh x, .sh (.int 3), .ow (.l [strD "net", strD "start", strD "end"]), .sh (.list [nt1, .int 5, .int 0]), .ow (.l [N, x, y]), .sh (.int 0), .no, .no]) (by simp [Def.fn,mkF,runF,startE,zAa,zAb,zAc,zAd,zAe,zAf,zAg,zAh,zAi,zAj,zAk,zAl,zAm,zAn,zAo,zAp,zAq,zAr,zAs,zAt,zAu,zAv,zAw,zAx,zAy,zAz,zA0,zA1,zA2,zA3,zA4,zA5,zA6,zA7,zA8,zA9,zBa,zBb,zBc,zBd,zBe,zBf,zBg,zBh,zBi,zBj,zBk,zBl,zBm,zBn,zBo,zBp,zBq,zBr,zBs,zBt,zBu,zBv,zBw,zBx,zBy,zBz,zB0,zB1,zB2,zB3,zB4,zB5,zB6,zB7,zB8,zB9,zCa,zCb,R.bind,OV.val,rd,stl,esc,escs,rds,isTy,truT_n,truT_b,truT_i,truT_l,truT_t,truT_s,truT_d,zCc,zCd,zCe,zCf,zCg,zCh,zCi,zCj,zCk,zCl,zCm,zCn,zCo,zCp,zCq,zCr,zCs,zCt,zCu,bop,blt,zCv,zCw,zCx,zCy,zCz,zC0,zC1,zC2,zC3,R.of,outsE,retR,putR,zC4,zC5,zC6,zC7,zC8,setVs,bindTg,lend,giveBack,ownL,putL,setAt,slcD,revD,asInt,List.replicate,line,cutL,cutN,g3,o3,tn,strD,ne1]) (zDg ?_)
        exact zDh (e1 := [.sh S, .ow (.l st4), .sh (.int w), .sh rlD, .sh nt1, .ow (.l odds), .sh N, .sh x, .sh (.int 3), .ow (.l [strD "net", strD "start", strD "end"]), .sh (.list [nt1, .int 5, .int 0]), .ow (.l [N, x, y]), .sh (.int 0), .no, .no]) (by simp [Def.fn,mkF,runF,startE,zAa,zAb,zAc,zAd,zAe,zAf,zAg,zAh,zAi,zAj,zAk,zAl,zAm,zAn,zAo,zAp,zAq,zAr,zAs,zAt,zAu,zAv,zAw,zAx,zAy,zAz,zA0,zA1,zA2,zA3,zA4,zA5,zA6,zA7,zA8,zA9,zBa,zBb,zBc,zBd,zBe,zBf,zBg,zBh,zBi,zBj,zBk,zBl,zBm,zBn,zBo,zBp,zBq,zBr,zBs,zBt,zBu,zBv,zBw,zBx,zBy,zBz,zB0,zB1,zB2,zB3,zB4,zB5,zB6,zB7,zB8,zB9,zCa,zCb,R.bind,OV.val,rd,stl,esc,escs,rds,isTy,truT_n,truT_b,truT_i,truT_l,truT_t,truT_s,truT_d,zCc,zCd,zCe,zCf,zCg,zCh,zCi,zCj,zCk,zCl,zCm,zCn,zCo,zCp,zCq,zCr,zCs,zCt,zCu,bop,blt,zCv,zCw,zCx,zCy,zCz,zC0,zC1,zC2,zC3,R.of,outsE,retR,putR,zC4,zC5,zC6,zC7,zC8,setVs,bindTg,lend,giveBack,ownL,putL,setAt,slcD,revD,asInt,List.replicate,line,cutL,cutN,g3,o3,tn,strD,ne1]) (zDg (zDg ⟨.sh (.int 0), trivial, rfl⟩))
      · refine ⟨[.sh S, .ow (.l st4), .sh (.int w), .sh rlD, .sh nt1, .ow (.l odds), .sh N, .sh x, .sh (.int 3), .ow (.l [strD "net", strD "start", strD "end"]), .sh (.list [nt1, .int 5, .int 0]), .ow (.l [N, x, y]), .sh (.int 1), .no, .no], by simp [Def.fn,mkF,runF,startE,zAa,zAb,zAc,zAd,zAe,zAf,zAg,zAh,zAi,zAj,zAk,zAl,zAm,zAn,zAo,zAp,zAq,zAr,zAs,zAt,zAu,zAv,zAw,zAx,zAy,zAz,zA0,zA1,zA2,zA3,zA4,zA5,zA6,zA7,zA8,zA9,zBa,zBb,zBc,zBd,zBe,zBf,zBg,zBh,zBi,zBj,zBk,zBl,zBm,zBn,zBo,zBp,zBq,zBr,zBs,zBt,zBu,zBv,zBw,zBx,zBy,zBz,zB0,zB1,zB2,zB3,zB4,zB5,zB6,zB7,zB8,zB9,zCa,zCb,R.bind,OV.val,rd,stl,esc,escs,rds,isTy,truT_n,truT_b,truT_i,truT_l,truT_t,truT_s,truT_d,zCc,zCd,zCe,zCf,zCg,zCh,zCi,zCj,zCk,zCl,zCm,zCn,zCo,zCp,zCq,zCr,zCs,zCt,zCu,bop,blt,zCv,zCw,zCx,zCy,zCz,zC0,zC1,zC2,zC3,R.of,outsE,retR,putR,zC4,zC5,zC6,zC7,zC8,setVs,bindTg,lend,giveBack,ownL,putL,setAt,slcD,revD,asInt,List.replicate,io], ?_⟩
        refine zDh (e1 := [.sh S, .ow (.l st4), .sh (.int w), .sh rlD, .sh nt1, .ow (.l odds), .sh N, .sh x, .sh (.int 3), .ow (.l [strD "net", strD "start", strD "end"]), .sh (.list [nt1, .int 5, .int 0]), .ow (.l [N, x, y]), .sh (.int 1), .no, .no]) (by simp [Def.fn,mkF,runF,startE,zAa,zAb,zAc,zAd,zAe,zAf,zAg,zAh,zAi,zAj,zAk,zAl,zAm,zAn,zAo,zAp,zAq,zAr,zAs,zAt,zAu,zAv,zAw,zAx,zAy,zAz,zA0,zA1,zA2,zA3,zA4,zA5,zA6,zA7,zA8,zA9,zBa,zBb,zBc,zBd,zBe,zBf,zBg,zBh,zBi,zBj,zBk,zBl,zBm,zBn,zBo,zBp,zBq,zBr,zBs,zBt,zBu,zBv,zBw,zBx,zBy,zBz,zB0,zB1,zB2,zB3,zB4,zB5,zB6,zB7,zB8,zB9,zCa,zCb,R.bind,OV.val,rd,stl,esc,escs,rds,isTy,truT_n,truT_b,truT_i,truT_l,truT_t,truT_s,truT_d,zCc,zCd,zCe,zCf,zCg,zCh,zCi,zCj,zCk,zCl,zCm,zCn,zCo,zCp,zCq,zCr,zCs,zCt,zCu,bop,blt,zCv,zCw,zCx,zCy,zCz,zC0,zC1,zC2,zC3,R.of,outsE,retR,putR,zC4,zC5,zC6,zC7,zC8,setVs,bindTg,lend,giveBack,ownL,putL,setAt,slcD,revD,asInt,List.replicate,line,cutL,cutN,g3,o3,ts,strD,ne2]) (zDg ?_)
        exact zDh (e1 := [.sh S, .ow (.l st4), .sh (.int w), .sh rlD, .sh nt1, .ow (.l odds), .sh N, .sh x, .sh (.int 3), .ow (.l [strD "net", strD "start", strD "end"]), .sh (.list [nt1, .int 5, .int 0]), .ow (.l [N, x, y]), .sh (.int 1), .no, .no]) (by simp [Def.fn,mkF,runF,startE,zAa,zAb,zAc,zAd,zAe,zAf,zAg,zAh,zAi,zAj,zAk,zAl,zAm,zAn,zAo,zAp,zAq,zAr,zAs,zAt,zAu,zAv,zAw,zAx,zAy,zAz,zA0,zA1,zA2,zA3,zA4,zA5,zA6,zA7,zA8,zA9,zBa,zBb,zBc,zBd,zBe,zBf,zBg,zBh,zBi,zBj,zBk,zBl,zBm,zBn,zBo,zBp,zBq,zBr,zBs,zBt,zBu,zBv,zBw,zBx,zBy,zBz,zB0,zB1,zB2,zB3,zB4,zB5,zB6,zB7,zB8,zB9,zCa,zCb,R.bind,OV.val,rd,stl,esc,escs,rds,isTy,truT_n,truT_b,truT_i,truT_l,truT_t,truT_s,truT_d,zCc,zCd,zCe,zCf,zCg,zCh,zCi,zCj,zCk,zCl,zCm,zCn,zCo,zCp,zCq,zCr,zCs,zCt,zCu,bop,blt,zCv,zCw,zCx,zCy,zCz,zC0,zC1,zC2,zC3,R.of,outsE,retR,putR,zC4,zC5,zC6,zC7,zC8,setVs,bindTg,lend,giveBack,ownL,putL,setAt,slcD,revD,asInt,List.replicate,line,cutL,cutN,g3,o3,ts,strD,ne2]) (zDg (zDg ⟨.sh (.int 1), trivial, rfl⟩))
      · refine ⟨[.sh S, .ow (.l st4), .sh (.int w), .sh rlD, .sh nt1, .ow (.l odds), .sh N, .sh x, .sh (.int 3), .ow (.l [strD "net", strD "start", strD "end"]), .sh (.list [nt1, .int 5, .int 0]), .ow (.l [N, x, y]), .sh (.int 2), .no, .no], by simp [Def.fn,mkF,runF,startE,zAa,zAb,zAc,zAd,zAe,zAf,zAg,zAh,zAi,zAj,zAk,zAl,zAm,zAn,zAo,zAp,zAq,zAr,zAs,zAt,zAu,zAv,zAw,zAx,zAy,zAz,zA0,zA1,zA2,zA3,zA4,zA5,zA6,zA7,zA8,zA9,zBa,zBb,zBc,zBd,zBe,zBf,zBg,zBh,zBi,zBj,zBk,zBl,zBm,zBn,zBo,zBp,zBq,zBr,zBs,zBt,zBu,zBv,zBw,zBx,zBy,zBz,zB0,zB1,zB2,zB3,zB4,zB5,zB6,zB7,zB8,zB9,zCa,zCb,R.bind,OV.val,rd,stl,esc,escs,rds,isTy,truT_n,truT_b,truT_i,truT_l,truT_t,truT_s,truT_d,zCc,zCd,zCe,zCf,zCg,zCh,zCi,zCj,zCk,zCl,zCm,zCn,zCo,zCp,zCq,zCr,zCs,zCt,zCu,bop,blt,zCv,zCw,zCx,zCy,zCz,zC0,zC1,zC2,zC3,R.of,outsE,retR,putR,zC4,zC5,zC6,zC7,zC8,setVs,bindTg,lend,giveBack,ownL,putL,setAt,slcD,revD,asInt,List.replicate,io], ?_⟩
        refine zDh (e1 := [.sh S, .ow (.l st4), .sh (.int w), .sh rlD, .sh nt1, .ow (.l odds), .sh N, .sh x, .sh (.int 3), .ow (.l [strD "net", strD "start", strD "end"]), .sh (.list [nt1, .int 5, .int 0]), .ow (.l [N, x, y]), .sh (.int 2), .no, .no]) (by simp [Def.fn,mkF,runF,startE,zAa,zAb,zAc,zAd,zAe,zAf,zAg,zAh,zAi,zAj,zAk,zAl,zAm,zAn,zAo,zAp,zAq,zAr,zAs,zAt,zAu,zAv,zAw,zAx,zAy,zAz,zA0,zA1,zA2,zA3,zA4,zA5,zA6,zA7,zA8,zA9,zBa,zBb,zBc,zBd,zBe,zBf,zBg,zBh,zBi,zBj,zBk,zBl,zBm,zBn,zBo,zBp,zBq,zBr,zBs,zBt,zBu,zBv,zBw,zBx,zBy,zBz,zB0,zB1,zB2,zB3,zB4,zB5,zB6,zB7,zB8,zB9,zCa,zCb,R.bind,OV.val,rd,stl,esc,escs,rds,isTy,truT_n,truT_b,truT_i,truT_l,truT_t,truT_s,truT_d,zCc,zCd,zCe,zCf,zCg,zCh,zCi,zCj,zCk,zCl,zCm,zCn,zCo,zCp,zCq,zCr,zCs,zCt,zCu,bop,blt,zCv,zCw,zCx,zCy,zCz,zC0,zC1,zC2,zC3,R.of,outsE,retR,putR,zC4,zC5,zC6,zC7,zC8,setVs,bindTg,lend,giveBack,ownL,putL,setAt,slcD,revD,asInt,List.replicate,line,cutL,cutN,g3,o3,te,strD,ne3]) (zDg ?_)
        exact zDh (e1 := [.sh S, .ow (.l st4), .sh (.int w), .sh rlD, .sh nt1, .ow (.l odds), .sh N, .sh x, .sh (.int 3), .ow (.l [strD "net", strD "start", strD "end"]), .sh (.list [nt1, .int 5, .int 0]), .ow (.l [N, x, y]), .sh (.int 2), .no, .no]) (by simp [Def.fn,mkF,runF,startE,zAa,zAb,zAc,zAd,zAe,zAf,zAg,zAh,zAi,zAj,zAk,zAl,zAm,zAn,zAo,zAp,zAq,zAr,zAs,zAt,zAu,zAv,zAw,zAx,zAy,zAz,zA0,zA1,zA2,zA3,zA4,zA5,zA6,zA7,zA8,zA9,zBa,zBb,zBc,zBd,zBe,zBf,zBg,zBh,zBi,zBj,zBk,zBl,zBm,zBn,zBo,zBp,zBq,zBr,zBs,zBt,zBu,zBv,zBw,zBx,zBy,zBz,zB0,zB1,zB2,zB3,zB4,zB5,zB6,zB7,zB8,zB9,zCa,zCb,R.bind,OV.val,rd,stl,esc,escs,rds,isTy,truT_n,truT_b,truT_i,truT_l,truT_t,truT_s,truT_d,zCc,zCd,zCe,zCf,zCg,zCh,zCi,zCj,zCk,zCl,zCm,zCn,zCo,zCp,zCq,zCr,zCs,zCt,zCu,bop,blt,zCv,zCw,zCx,zCy,zCz,zC0,zC1,zC2,zC3,R.of,outsE,retR,putR,zC4,zC5,zC6,zC7,zC8,setVs,bindTg,lend,giveBack,ownL,putL,setAt,slcD,revD,asInt,List.replicate,line,cutL,cutN,g3,o3,te,strD,ne3]) (zDg (zDg ⟨.sh (.int 2), trivial, rfl⟩))
    rintro ev ⟨u, hu, rfl⟩
    have io : u.ioB = false := by cases u <;> first | rfl | cases hu
    refine zDf (e1 := [.sh S, .ow (.l st4), .sh (.int w), .sh rlD, .sh nt1, .ow (.l odds), .sh N, .sh x, .sh (.int 3), .ow (.l [strD "net", strD "start", strD "end"]), .sh (.list [nt1, .int 5, .int 0]), .ow (.l [N, x, y]), u, .sh aprt, .no]) (by kernel_rfl) ?_
    rcases ta with ⟨wn, ta⟩ | ⟨wn, ta⟩
    · rw [← hw] at ta
      unfold okS strD at ta
      subst wn
      refine zDf (e1 := [.sh S, .ow (.l st4), .sh (.int 7), .sh rlD, .sh nt1, .ow (.l odds), .sh N, .sh x, .sh (.int 3), .ow (.l [strD "net", strD "start", strD "end"]), .sh (.list [nt1, .int 5, .int 0]), .ow (.l [N, x, y]), u, .sh aprt, .sh (strD "")]) (by kernel_rfl) ?_
      refine zDh (e1 := [.sh S, .ow (.l st4), .sh (.int 7), .sh rlD, .sh nt1, .ow (.l odds), .sh N, .sh x, .sh (.int 3), .ow (.l [strD "net", strD "start", strD "end"]), .sh (.list [nt1, .int 5, .int 0]), .ow (.l [N, x, y]), u, .sh aprt, .sh (strD "")]) (by simp [Def.fn,mkF,runF,startE,zAa,zAb,zAc,zAd,zAe,zAf,zAg,zAh,zAi,zAj,zAk,zAl,zAm,zAn,zAo,zAp,zAq,zAr,zAs,zAt,zAu,zAv,zAw,zAx,zAy,zAz,zA0,zA1,zA2,zA3,zA4,zA5,zA6,zA7,zA8,zA9,zBa,zBb,zBc,zBd,zBe,zBf,zBg,zBh,zBi,zBj,zBk,zBl,zBm,zBn,zBo,zBp,zBq,zBr,zBs,zBt,zBu,zBv,zBw,zBx,zBy,zBz,zB0,zB1,zB2,zB3,zB4,zB5,zB6,zB7,zB8,zB9,zCa,zCb,R.bind,OV.val,rd,stl,esc,escs,rds,isTy,truT_n,truT_b,truT_i,truT_l,truT_t,truT_s,truT_d,zCc,zCd,zCe,zCf,zCg,zCh,zCi,zCj,zCk,zCl,zCm,zCn,zCo,zCp,zCq,zCr,zCs,zCt,zCu,bop,blt,zCv,zCw,zCx,zCy,zCz,zC0,zC1,zC2,zC3,R.of,outsE,retR,putR,zC4,zC5,zC6,zC7,zC8,setVs,bindTg,lend,giveBack,ownL,putL,setAt,slcD,revD,asInt,List.replicate,line,cutL,cutN,g3,o3,ta,strD,ne0]) (zDg ?_)
      refine zDj (by simp [Def.fn,mkF,runF,startE,zAa,zAb,zAc,zAd,zAe,zAf,zAg,zAh,zAi,zAj,zAk,zAl,zAm,zAn,zAo,zAp,zAq,zAr,zAs,zAt,zAu,zAv,zAw,zAx,zAy,zAz,zA0,zA1,zA2,zA3,zA4,zA5,zA6,zA7,zA8,zA9,zBa,zBb,zBc,zBd,zBe,zBf,zBg,zBh,zBi,zBj,zBk,zBl,zBm,zBn,zBo,zBp,zBq,zBr,zBs,zBt,zBu,zBv,zBw,zBx,zBy,zBz,zB0,zB1,zB2,zB3,zB4,zB5,zB6,zB7,zB8,zB9,zCa,zCb,R.bind,OV.val,rd,stl,esc,escs,rds,isTy,truT_n,truT_b,truT_i,truT_l,truT_t,truT_s,truT_d,zCc,zCd,zCe,zCf,zCg,zCh,zCi,zCj,zCk,zCl,zCm,zCn,zCo,zCp,zCq,zCr,zCs,zCt,zCu,bop,blt,zCv,zCw,zCx,zCy,zCz,zC0,zC1,zC2,zC3,R.of,outsE,retR,putR,zC4,zC5,zC6,zC7,zC8,setVs,bindTg,lend,giveBack,ownL,putL,setAt,slcD,revD,asInt,List.replicate,line,g3,o3,tx,eq2]; first | done | rfl | exact ⟨rfl, rfl⟩ | (constructor <;> rfl)) (by simp [Def.fn,mkF,runF,startE,zAa,zAb,zAc,zAd,zAe,zAf,zAg,zAh,zAi,zAj,zAk,zAl,zAm,zAn,zAo,zAp,zAq,zAr,zAs,zAt,zAu,zAv,zAw,zAx,zAy,zAz,zA0,zA1,zA2,zA3,zA4,zA5,zA6,zA7,zA8,zA9,zBa,zBb,zBc,zBd,zBe,zBf,zBg,zBh,zBi,zBj,zBk,zBl,zBm,zBn,zBo,zBp,zBq,zBr,zBs,zBt,zBu,zBv,zBw,zBx,zBy,zBz,zB0,zB1,zB2,zB3,zB4,zB5,zB6,zB7,zB8,zB9,zCa,zCb,R.bind,OV.val,rd,stl,esc,escs,rds,isTy,truT_n,truT_b,truT_i,truT_l,truT_t,truT_s,truT_d,zCc,zCd,zCe,zCf,zCg,zCh,zCi,zCj,zCk,zCl,zCm,zCn,zCo,zCp,zCq,zCr,zCs,zCt,zCu,bop,blt,zCv,zCw,zCx,zCy,zCz,zC0,zC1,zC2,zC3,R.of,outsE,retR,putR,zC4,zC5,zC6,zC7,zC8,setVs,bindTg,lend,giveBack,ownL,putL,setAt,slcD,revD,asInt,List.replicate]; first | done | rfl | exact ⟨rfl, rfl⟩ | (constructor <;> rfl)) ?_
      exact ⟨[], rfl, rfl, rfl⟩
    · rw [← hw] at ta
      unfold notN strD at ta
      subst wn
      refine zDf (e1 := [.sh S, .ow (.l st4), .sh (.int 6), .sh rlD, .sh nt1, .ow (.l odds), .sh N, .sh x, .sh (.int 3), .ow (.l [strD "net", strD "start", strD "end"]), .sh (.list [nt1, .int 5, .int 0]), .ow (.l [N, x, y]), u, .sh aprt, .sh (.list [strD "not", strD "net"])]) (by kernel_rfl) ?_
      refine zDh (e1 := [.sh S, .ow (.l st4), .sh (.int 6), .sh rlD, .sh nt1, .ow (.l odds), .sh N, .sh x, .sh (.int 3), .ow (.l [strD "net", strD "start", strD "end"]), .sh (.list [nt1, .int 5, .int 0]), .ow (.l [N, x, y]), u, .sh aprt, .sh (.list [strD "not", strD "net"])]) (by simp [Def.fn,mkF,runF,startE,zAa,zAb,zAc,zAd,zAe,zAf,zAg,zAh,zAi,zAj,zAk,zAl,zAm,zAn,zAo,zAp,zAq,zAr,zAs,zAt,zAu,zAv,zAw,zAx,zAy,zAz,zA0,zA1,zA2,zA3,zA4,zA5,zA6,zA7,zA8,zA9,zBa,zBb,zBc,zBd,zBe,zBf,zBg,zBh,zBi,zBj,zBk,zBl,zBm,zBn,zBo,zBp,zBq,zBr,zBs,zBt,zBu,zBv,zBw,zBx,zBy,zBz,zB0,zB1,zB2,zB3,zB4,zB5,zB6,zB7,zB8,zB9,zCa,zCb,R.bind,OV.val,rd,stl,esc,escs,rds,isTy,truT_n,truT_b,truT_i,truT_l,truT_t,truT_s,truT_d,zCc,zCd,zCe,zCf,zCg,zCh,zCi,zCj,zCk,zCl,zCm,zCn,zCo,zCp,zCq,zCr,zCs,zCt,zCu,bop,blt,zCv,zCw,zCx,zCy,zCz,zC0,zC1,zC2,zC3,R.of,outsE,retR,putR,zC4,zC5,zC6,zC7,zC8,setVs,bindTg,lend,giveBack,ownL,putL,setAt,slcD,revD,asInt,List.replicate,line,cutL,cutN,g3,o3,ta,strD,neL]) (zDg ?_)
      refine zDj (by simp [Def.fn,mkF,runF,startE,zAa,zAb,zAc,zAd,zAe,zAf,zAg,zAh,zAi,zAj,zAk,zAl,zAm,zAn,zAo,zAp,zAq,zAr,zAs,zAt,zAu,zAv,zAw,zAx,zAy,zAz,zA0,zA1,zA2,zA3,zA4,zA5,zA6,zA7,zA8,zA9,zBa,zBb,zBc,zBd,zBe,zBf,zBg,zBh,zBi,zBj,zBk,zBl,zBm,zBn,zBo,zBp,zBq,zBr,zBs,zBt,zBu,zBv,zBw,zBx,zBy,zBz,zB0,zB1,zB2,zB3,zB4,zB5,zB6,zB7,zB8,zB9,zCa,zCb,R.bind,OV.val,rd,stl,esc,escs,rds,isTy,truT_n,truT_b,truT_i,truT_l,truT_t,truT_s,truT_d,zCc,zCd,zCe,zCf,zCg,zCh,zCi,zCj,zCk,zCl,zCm,zCn,zCo,zCp,zCq,zCr,zCs,zCt,zCu,bop,blt,zCv,zCw,zCx,zCy,zCz,zC0,zC1,zC2,zC3,R.of,outsE,retR,putR,zC4,zC5,zC6,zC7,zC8,setVs,bindTg,lend,giveBack,ownL,putL,setAt,slcD,revD,asInt,List.replicate,line,g3,o3,tx,eq2]; first | done | rfl | exact ⟨rfl, rfl⟩ | (constructor <;> rfl)) (by simp [Def.fn,mkF,runF,startE,zAa,zAb,zAc,zAd,zAe,zAf,zAg,zAh,zAi,zAj,zAk,zAl,zAm,zAn,zAo,zAp,zAq,zAr,zAs,zAt,zAu,zAv,zAw,zAx,zAy,zAz,zA0,zA1,zA2,zA3,zA4,zA5,zA6,zA7,zA8,zA9,zBa,zBb,zBc,zBd,zBe,zBf,zBg,zBh,zBi,zBj,zBk,zBl,zBm,zBn,zBo,zBp,zBq,zBr,zBs,zBt,zBu,zBv,zBw,zBx,zBy,zBz,zB0,zB1,zB2,zB3,zB4,zB5,zB6,zB7,zB8,zB9,zCa,zCb,R.bind,OV.val,rd,stl,esc,escs,rds,isTy,truT_n,truT_b,truT_i,truT_l,truT_t,truT_s,truT_d,zCc,zCd,zCe,zCf,zCg,zCh,zCi,zCj,zCk,zCl,zCm,zCn,zCo,zCp,zCq,zCr,zCs,zCt,zCu,bop,blt,zCv,zCw,zCx,zCy,zCz,zC0,zC1,zC2,zC3,R.of,outsE,retR,putR,zC4,zC5,zC6,zC7,zC8,setVs,bindTg,lend,giveBack,ownL,putL,setAt,slcD,revD,asInt,List.replicate]; first | done | rfl | exact ⟨rfl, rfl⟩ | (constructor <;> rfl)) ?_
      exact ⟨[], rfl, rfl, rfl⟩
end Bide

set_option autoImplicit false
set_option Elab.async false
set_option maxRecDepth 100000
set_option linter.all false
set_option maxHeartbeats 0
namespace Bide
open PySem PySem.Spec PyProof.Rows L2
/-! ### the head -/
def top (i : Nat) : Stmt := PySem.Challenge.pw_allbide_k15_refusals_of_bounds.main.body.getD i (.Pass ⟨0, 0, 0, 0⟩)
def xcs : List Xc := [("BadValue", "name"), ("NotPossible", "why")]
def clsFn : Stmt → Stmt
  | .ClassDef _ _ _ body _ _ _ _ _ _ _ => body.getD 0 (.Pass ⟨0, 0, 0, 0⟩)
  | s => s
abbrev s0 : Stmt := top 9
abbrev K0 : He.DefD := ⟨("is_between", none), "is_between", "is_between", defArgs s0, defBody s0, defScope s0, [], []⟩
theorem chk0 : D_is_between.chk (xcs.map (·.1)) (xfOf xcs) s0 = true := by kernel_rfl
abbrev s1 : Stmt := top 10
abbrev K1 : He.DefD := ⟨("is_side", none), "is_side", "is_side", defArgs s1, defBody s1, defScope s1, [], []⟩
theorem chk1 : D_is_side.chk (xcs.map (·.1)) (xfOf xcs) s1 = true := by kernel_rfl
abbrev s2 : Stmt := top 11
abbrev K2 : He.DefD := ⟨("is_rule", none), "is_rule", "is_rule", defArgs s2, defBody s2, defScope s2, [], []⟩
theorem chk2 : D_is_rule.chk (xcs.map (·.1)) (xfOf xcs) s2 = true := by kernel_rfl
abbrev s3 : Stmt := top 12
abbrev K3 : He.DefD := ⟨("is_net", none), "is_net", "is_net", defArgs s3, defBody s3, defScope s3, [], []⟩
theorem chk3 : D_is_net.chk (xcs.map (·.1)) (xfOf xcs) s3 = true := by kernel_rfl
abbrev s4 : Stmt := top 13
abbrev K4 : He.DefD := ⟨("excess_of", none), "excess_of", "excess_of", defArgs s4, defBody s4, defScope s4, [], []⟩
theorem chk4 : D_excess_of.chk (xcs.map (·.1)) (xfOf xcs) s4 = true := by kernel_rfl
abbrev s5 : Stmt := top 14
abbrev K5 : He.DefD := ⟨("all_hold", none), "all_hold", "all_hold", defArgs s5, defBody s5, defScope s5, [], []⟩
theorem chk5 : D_all_hold.chk (xcs.map (·.1)) (xfOf xcs) s5 = true := by kernel_rfl
abbrev s6 : Stmt := top 15
abbrev K6 : He.DefD := ⟨("edges_of", none), "edges_of", "edges_of", defArgs s6, defBody s6, defScope s6, [], []⟩
theorem chk6 : D_edges_of.chk (xcs.map (·.1)) (xfOf xcs) s6 = true := by kernel_rfl
abbrev s7 : Stmt := top 16
abbrev K7 : He.DefD := ⟨("edge_of", none), "edge_of", "edge_of", defArgs s7, defBody s7, defScope s7, [], []⟩
theorem chk7 : D_edge_of.chk (xcs.map (·.1)) (xfOf xcs) s7 = true := by kernel_rfl
abbrev s8 : Stmt := top 17
abbrev K8 : He.DefD := ⟨("walk_end", none), "walk_end", "walk_end", defArgs s8, defBody s8, defScope s8, [], []⟩
theorem chk8 : D_walk_end.chk (xcs.map (·.1)) (xfOf xcs) s8 = true := by kernel_rfl
abbrev s9 : Stmt := top 18
abbrev K9 : He.DefD := ⟨("length_of", none), "length_of", "length_of", defArgs s9, defBody s9, defScope s9, [], []⟩
theorem chk9 : D_length_of.chk (xcs.map (·.1)) (xfOf xcs) s9 = true := by kernel_rfl
abbrev s10 : Stmt := top 20
abbrev K10 : He.DefD := ⟨("is_integer", none), "is_integer", "is_integer", defArgs s10, defBody s10, defScope s10, [], []⟩
theorem chk10 : D_is_integer.chk (xcs.map (·.1)) (xfOf xcs) s10 = true := by kernel_rfl
abbrev s11 : Stmt := top 21
abbrev K11 : He.DefD := ⟨("check_net", none), "check_net", "check_net", defArgs s11, defBody s11, defScope s11, [], []⟩
theorem chk11 : D_check_net_k15.chk (xcs.map (·.1)) (xfOf xcs) s11 = true := by kernel_rfl
abbrev s12 : Stmt := top 22
abbrev K12 : He.DefD := ⟨("longer_walks", none), "longer_walks", "longer_walks", defArgs s12, defBody s12, defScope s12, [], []⟩
theorem chk12 : D_longer_walks.chk (xcs.map (·.1)) (xfOf xcs) s12 = true := by kernel_rfl
abbrev s13 : Stmt := top 23
abbrev K13 : He.DefD := ⟨("first_round", none), "first_round", "first_round", defArgs s13, defBody s13, defScope s13, [], []⟩
theorem chk13 : D_first_round.chk (xcs.map (·.1)) (xfOf xcs) s13 = true := by kernel_rfl
abbrev s14 : Stmt := top 24
abbrev K14 : He.DefD := ⟨("shortest_walks", none), "shortest_walks", "shortest_walks", defArgs s14, defBody s14, defScope s14, [], []⟩
theorem chk14 : D_shortest_walks.chk (xcs.map (·.1)) (xfOf xcs) s14 = true := by kernel_rfl
abbrev s15 : Stmt := top 25
abbrev K15 : He.DefD := ⟨("with_walk", none), "with_walk", "with_walk", defArgs s15, defBody s15, defScope s15, [], []⟩
theorem chk15 : D_with_walk.chk (xcs.map (·.1)) (xfOf xcs) s15 = true := by kernel_rfl
abbrev s16 : Stmt := top 26
abbrev K16 : He.DefD := ⟨("bounds_of", none), "bounds_of", "bounds_of", defArgs s16, defBody s16, defScope s16, [], []⟩
theorem chk16 : D_bounds_of.chk (xcs.map (·.1)) (xfOf xcs) s16 = true := by kernel_rfl
abbrev s17 : Stmt := top 27
abbrev K17 : He.DefD := ⟨("can_keep", none), "can_keep", "can_keep", defArgs s17, defBody s17, defScope s17, [], []⟩
theorem chk17 : D_can_keep.chk (xcs.map (·.1)) (xfOf xcs) s17 = true := by kernel_rfl
abbrev s18 : Stmt := top 28
abbrev K18 : He.DefD := ⟨("check_kept", none), "check_kept", "check_kept", defArgs s18, defBody s18, defScope s18, [], []⟩
theorem chk18 : D_check_kept_X.chk (xcs.map (·.1)) (xfOf xcs) s18 = true := by kernel_rfl
abbrev s19 : Stmt := top 29
abbrev K19 : He.DefD := ⟨("tight", none), "tight", "tight", defArgs s19, defBody s19, defScope s19, [], []⟩
theorem chk19 : D_tight.chk (xcs.map (·.1)) (xfOf xcs) s19 = true := by kernel_rfl
abbrev s20 : Stmt := top 30
abbrev K20 : He.DefD := ⟨("told_round", none), "told_round", "told_round", defArgs s20, defBody s20, defScope s20, [], []⟩
theorem chk20 : D_told_round.chk (xcs.map (·.1)) (xfOf xcs) s20 = true := by kernel_rfl
abbrev s21 : Stmt := top 31
abbrev K21 : He.DefD := ⟨("heights_of", none), "heights_of", "heights_of", defArgs s21, defBody s21, defScope s21, [], []⟩
theorem chk21 : D_heights_of.chk (xcs.map (·.1)) (xfOf xcs) s21 = true := by kernel_rfl
abbrev s22 : Stmt := top 32
abbrev K22 : He.DefD := ⟨("some_heights", none), "some_heights", "some_heights", defArgs s22, defBody s22, defScope s22, [], []⟩
theorem chk22 : D_some_heights.chk (xcs.map (·.1)) (xfOf xcs) s22 = true := by kernel_rfl
abbrev s23 : Stmt := top 33
abbrev K23 : He.DefD := ⟨("are_heights", none), "are_heights", "are_heights", defArgs s23, defBody s23, defScope s23, [], []⟩
theorem chk23 : D_are_heights.chk (xcs.map (·.1)) (xfOf xcs) s23 = true := by kernel_rfl
abbrev s24 : Stmt := top 34
abbrev K24 : He.DefD := ⟨("are_right", none), "are_right", "are_right", defArgs s24, defBody s24, defScope s24, [], []⟩
theorem chk24 : D_are_right.chk (xcs.map (·.1)) (xfOf xcs) s24 = true := by kernel_rfl
abbrev s25 : Stmt := top 35
abbrev K25 : He.DefD := ⟨("shows_kept", none), "shows_kept", "shows_kept", defArgs s25, defBody s25, defScope s25, [], []⟩
theorem chk25 : D_shows_kept.chk (xcs.map (·.1)) (xfOf xcs) s25 = true := by kernel_rfl
abbrev s26 : Stmt := top 36
abbrev K26 : He.DefD := ⟨("shows_round", none), "shows_round", "shows_round", defArgs s26, defBody s26, defScope s26, [], []⟩
theorem chk26 : D_shows_round.chk (xcs.map (·.1)) (xfOf xcs) s26 = true := by kernel_rfl
abbrev s27 : Stmt := top 37
abbrev K27 : He.DefD := ⟨("is_event", none), "is_event", "is_event", defArgs s27, defBody s27, defScope s27, [], []⟩
theorem chk27 : D_is_event_b.chk (xcs.map (·.1)) (xfOf xcs) s27 = true := by kernel_rfl
abbrev s28 : Stmt := top 38
abbrev K28 : He.DefD := ⟨("check_two", none), "check_two", "check_two", defArgs s28, defBody s28, defScope s28, [], []⟩
theorem chk28 : D_check_two.chk (xcs.map (·.1)) (xfOf xcs) s28 = true := by kernel_rfl
abbrev s29 : Stmt := top 39
abbrev K29 : He.DefD := ⟨("pulled", none), "pulled", "pulled", defArgs s29, defBody s29, defScope s29, [], []⟩
theorem chk29 : D_pulled.chk (xcs.map (·.1)) (xfOf xcs) s29 = true := by kernel_rfl
abbrev s30 : Stmt := top 40
abbrev K30 : He.DefD := ⟨("bound_evidence", none), "bound_evidence", "bound_evidence", defArgs s30, defBody s30, defScope s30, [], []⟩
theorem chk30 : D_bound_evidence.chk (xcs.map (·.1)) (xfOf xcs) s30 = true := by kernel_rfl
abbrev s31 : Stmt := top 41
abbrev K31 : He.DefD := ⟨("is_set", none), "is_set", "is_set", defArgs s31, defBody s31, defScope s31, [], []⟩
theorem chk31 : D_is_set.chk (xcs.map (·.1)) (xfOf xcs) s31 = true := by kernel_rfl
abbrev s32 : Stmt := top 42
abbrev K32 : He.DefD := ⟨("accepts_bound", none), "accepts_bound", "accepts_bound", defArgs s32, defBody s32, defScope s32, [], []⟩
theorem chk32 : D_accepts_bound.chk (xcs.map (·.1)) (xfOf xcs) s32 = true := by kernel_rfl
abbrev s33 : Stmt := top 44
abbrev K33 : He.DefD := ⟨("_law_stream", none), "_law_stream", "_law_stream", defArgs s33, defBody s33, defScope s33, [], []⟩
theorem chk33 : D_law_stream.chk (xcs.map (·.1)) (xfOf xcs) s33 = true := by kernel_rfl
abbrev s34 : Stmt := top 45
abbrev K34 : He.DefD := ⟨("_law_next", none), "_law_next", "_law_next", defArgs s34, defBody s34, defScope s34, [], []⟩
theorem chk34 : D_law_next.chk (xcs.map (·.1)) (xfOf xcs) s34 = true := by kernel_rfl
abbrev s35 : Stmt := top 46
abbrev K35 : He.DefD := ⟨("_law_ask", none), "_law_ask", "_law_ask", defArgs s35, defBody s35, defScope s35, [], []⟩
theorem chk35 : D_law_ask.chk (xcs.map (·.1)) (xfOf xcs) s35 = true := by kernel_rfl
abbrev s36 : Stmt := top 47
abbrev K36 : He.DefD := ⟨("_law_told", none), "_law_told", "_law_told", defArgs s36, defBody s36, defScope s36, [], []⟩
theorem chk36 : D_law_told.chk (xcs.map (·.1)) (xfOf xcs) s36 = true := by kernel_rfl
abbrev s37 : Stmt := top 48
abbrev K37 : He.DefD := ⟨("law", none), "law", "law", defArgs s37, defBody s37, defScope s37, [], []⟩
theorem chk37 : D_law.chk (xcs.map (·.1)) (xfOf xcs) s37 = true := by kernel_rfl
abbrev si0 : Stmt := clsFn (top 2)
abbrev KI0 : He.DefD := ⟨("BadValue", some "__init__"), "__init__", "BadValue.__init__", defArgs si0, defBody si0, defScope si0, [], []⟩
theorem chki0 : iniB "name" si0 = true := by kernel_rfl
abbrev si1 : Stmt := clsFn (top 3)
abbrev KI1 : He.DefD := ⟨("NotPossible", some "__init__"), "__init__", "NotPossible.__init__", defArgs si1, defBody si1, defScope si1, [], []⟩
theorem chki1 : iniB "why" si1 = true := by kernel_rfl
abbrev fn : List He.DefD := [K0, K1, K2, K3, K4, K5, K6, K7, K8, K9, K10, K11, K12, K13, K14, K15, K16, K17, K18, K19, K20, K21, K22, K23, K24, K25, K26, K27, K28, K29, K30, K31, K32, K33, K34, K35, K36, K37, KI0, KI1]
abbrev fa : List He.Fa := [.glo "is_between", .glo "is_side", .glo "is_rule", .glo "is_net", .glo "excess_of", .glo "all_hold", .glo "edges_of", .glo "edge_of", .glo "walk_end", .glo "length_of", .glo "is_integer", .glo "check_net", .glo "longer_walks", .glo "first_round", .glo "shortest_walks", .glo "with_walk", .glo "bounds_of", .glo "can_keep", .glo "check_kept", .glo "tight", .glo "told_round", .glo "heights_of", .glo "some_heights", .glo "are_heights", .glo "are_right", .glo "shows_kept", .glo "shows_round", .glo "is_event", .glo "check_two", .glo "pulled", .glo "bound_evidence", .glo "is_set", .glo "accepts_bound", .glo "_law_stream", .glo "_law_next", .glo "_law_ask", .glo "_law_told", .glo "law"] ++ (bltNames.map fun x => .free (sN x)) ++ (consts.map fun x => .int (sN x.1) x.2)
def loose0 : List PySem.Str := ["BideError", "BadValue", "NotPossible", "MOST_EVENTS", "MOST_RULES", "FARTHEST", "SIDES", "is_between", "is_side", "is_rule", "is_net", "excess_of", "all_hold", "edges_of", "edge_of", "walk_end", "length_of", "is_integer", "check_net", "longer_walks", "first_round", "shortest_walks", "with_walk", "bounds_of", "can_keep"]
def loose1 : List PySem.Str := ["check_kept", "tight", "told_round", "heights_of", "some_heights", "are_heights", "are_right", "shows_kept", "shows_round", "is_event", "check_two", "pulled", "bound_evidence", "is_set", "accepts_bound", "_law_stream", "_law_next", "_law_ask", "_law_told"]
abbrev loose : List PySem.Str := loose0 ++ loose1
abbrev Rw : PySem.W.OpenRow := PySem.W.OpenLaw.row PySem.Challenge.rw_allbide_k15_refusals_of_bounds
def exB (K : PySem.W.Frag) : Bool := tupsB constsT K && xcsB xcs K
abbrev hk : PySem.W.Hook := hookE 4 fa fn exB
def ob (s : PySem.W.SharedT) : He.AlD := obsEG 4 fa fn exB (HandSHeadRun.getT s)
theorem ob_eq (s : PySem.W.SharedT) : ob s = hk.obs s.abs := obsEG_eq (HandSHeadRun.getT_eq s)
theorem run (w : World) : HandSHeadRun.RunEq Rw (PySem.W.view Rw.prog [48]) hk ob 6000 loose w := by
  intro os
  kernel_rfl
theorem facts {P : Program} {w : World} {K : PySem.W.Frag} {h : Heap} {mg : Str → Option Value} {f : Addr} (X : K.In h) (G : h.Ns mainGlobals mg) (hfa : mg ("law" : Str) = some (.ref f)) (c0 : SaysE fa fn exB K) :
    ∃ fd : FuncData, (∀ (s : Shared) (v : Value), BindsTo s fd ⟨[v], []⟩ [((sN "_law_script"), v)]) ∧ ∀ base : Heap, K.In base → base.Ns mainGlobals mg → FnOk P w K mg base (L2.CX P w) 77 f fd [sN "_law_script"] (spOf K (caOf K xcs) (xfOf xcs) (D_law.fn C37)) := by
  obtain ⟨c, cT0⟩ := c0.both
  obtain ⟨cT, cX⟩ := Bool.and_eq_true_iff.mp cT0
  obtain ⟨fd0, F0⟩ := c.def_ 0 (d := K0) rfl
  have g0 := He.glo_ok X G (c.fact 0 (f := .glo "is_between") rfl)
  obtain ⟨fd1, F1⟩ := c.def_ 1 (d := K1) rfl
  have g1 := He.glo_ok X G (c.fact 1 (f := .glo "is_side") rfl)
  obtain ⟨fd2, F2⟩ := c.def_ 2 (d := K2) rfl
  have g2 := He.glo_ok X G (c.fact 2 (f := .glo "is_rule") rfl)
  obtain ⟨fd3, F3⟩ := c.def_ 3 (d := K3) rfl
  have g3 := He.glo_ok X G (c.fact 3 (f := .glo "is_net") rfl)
  obtain ⟨fd4, F4⟩ := c.def_ 4 (d := K4) rfl
  have g4 := He.glo_ok X G (c.fact 4 (f := .glo "excess_of") rfl)
  obtain ⟨fd5, F5⟩ := c.def_ 5 (d := K5) rfl
  have g5 := He.glo_ok X G (c.fact 5 (f := .glo "all_hold") rfl)
  obtain ⟨fd6, F6⟩ := c.def_ 6 (d := K6) rfl
  have g6 := He.glo_ok X G (c.fact 6 (f := .glo "edges_of") rfl)
  obtain ⟨fd7, F7⟩ := c.def_ 7 (d := K7) rfl
  have g7 := He.glo_ok X G (c.fact 7 (f := .glo "edge_of") rfl)
  obtain ⟨fd8, F8⟩ := c.def_ 8 (d := K8) rfl
  have g8 := He.glo_ok X G (c.fact 8 (f := .glo "walk_end") rfl)
  obtain ⟨fd9, F9⟩ := c.def_ 9 (d := K9) rfl
  have g9 := He.glo_ok X G (c.fact 9 (f := .glo "length_of") rfl)
  obtain ⟨fd10, F10⟩ := c.def_ 10 (d := K10) rfl
  have g10 := He.glo_ok X G (c.fact 10 (f := .glo "is_integer") rfl)
  obtain ⟨fd11, F11⟩ := c.def_ 11 (d := K11) rfl
  have g11 := He.glo_ok X G (c.fact 11 (f := .glo "check_net") rfl)
  obtain ⟨fd12, F12⟩ := c.def_ 12 (d := K12) rfl
  have g12 := He.glo_ok X G (c.fact 12 (f := .glo "longer_walks") rfl)
  obtain ⟨fd13, F13⟩ := c.def_ 13 (d := K13) rfl
  have g13 := He.glo_ok X G (c.fact 13 (f := .glo "first_round") rfl)
  obtain ⟨fd14, F14⟩ := c.def_ 14 (d := K14) rfl
  have g14 := He.glo_ok X G (c.fact 14 (f := .glo "shortest_walks") rfl)
  obtain ⟨fd15, F15⟩ := c.def_ 15 (d := K15) rfl
  have g15 := He.glo_ok X G (c.fact 15 (f := .glo "with_walk") rfl)
  obtain ⟨fd16, F16⟩ := c.def_ 16 (d := K16) rfl
  have g16 := He.glo_ok X G (c.fact 16 (f := .glo "bounds_of") rfl)
  obtain ⟨fd17, F17⟩ := c.def_ 17 (d := K17) rfl
  have g17 := He.glo_ok X G (c.fact 17 (f := .glo "can_keep") rfl)
  obtain ⟨fd18, F18⟩ := c.def_ 18 (d := K18) rfl
  have g18 := He.glo_ok X G (c.fact 18 (f := .glo "check_kept") rfl)
  obtain ⟨fd19, F19⟩ := c.def_ 19 (d := K19) rfl
  have g19 := He.glo_ok X G (c.fact 19 (f := .glo "tight") rfl)
  obtain ⟨fd20, F20⟩ := c.def_ 20 (d := K20) rfl
  have g20 := He.glo_ok X G (c.fact 20 (f := .glo "told_round") rfl)
  obtain ⟨fd21, F21⟩ := c.def_ 21 (d := K21) rfl
  have g21 := He.glo_ok X G (c.fact 21 (f := .glo "heights_of") rfl)
  obtain ⟨fd22, F22⟩ := c.def_ 22 (d := K22) rfl
  have g22 := He.glo_ok X G (c.fact 22 (f := .glo "some_heights") rfl)
  obtain ⟨fd23, F23⟩ := c.def_ 23 (d := K23) rfl
  have g23 := He.glo_ok X G (c.fact 23 (f := .glo "are_heights") rfl)
  obtain ⟨fd24, F24⟩ := c.def_ 24 (d := K24) rfl
  have g24 := He.glo_ok X G (c.fact 24 (f := .glo "are_right") rfl)
  obtain ⟨fd25, F25⟩ := c.def_ 25 (d := K25) rfl
  have g25 := He.glo_ok X G (c.fact 25 (f := .glo "shows_kept") rfl)
  obtain ⟨fd26, F26⟩ := c.def_ 26 (d := K26) rfl
  have g26 := He.glo_ok X G (c.fact 26 (f := .glo "shows_round") rfl)
  obtain ⟨fd27, F27⟩ := c.def_ 27 (d := K27) rfl
  have g27 := He.glo_ok X G (c.fact 27 (f := .glo "is_event") rfl)
  obtain ⟨fd28, F28⟩ := c.def_ 28 (d := K28) rfl
  have g28 := He.glo_ok X G (c.fact 28 (f := .glo "check_two") rfl)
  obtain ⟨fd29, F29⟩ := c.def_ 29 (d := K29) rfl
  have g29 := He.glo_ok X G (c.fact 29 (f := .glo "pulled") rfl)
  obtain ⟨fd30, F30⟩ := c.def_ 30 (d := K30) rfl
  have g30 := He.glo_ok X G (c.fact 30 (f := .glo "bound_evidence") rfl)
  obtain ⟨fd31, F31⟩ := c.def_ 31 (d := K31) rfl
  have g31 := He.glo_ok X G (c.fact 31 (f := .glo "is_set") rfl)
  obtain ⟨fd32, F32⟩ := c.def_ 32 (d := K32) rfl
  have g32 := He.glo_ok X G (c.fact 32 (f := .glo "accepts_bound") rfl)
  obtain ⟨fd33, F33⟩ := c.def_ 33 (d := K33) rfl
  have g33 := He.glo_ok X G (c.fact 33 (f := .glo "_law_stream") rfl)
  obtain ⟨fd34, F34⟩ := c.def_ 34 (d := K34) rfl
  have g34 := He.glo_ok X G (c.fact 34 (f := .glo "_law_next") rfl)
  obtain ⟨fd35, F35⟩ := c.def_ 35 (d := K35) rfl
  have g35 := He.glo_ok X G (c.fact 35 (f := .glo "_law_ask") rfl)
  obtain ⟨fd36, F36⟩ := c.def_ 36 (d := K36) rfl
  have g36 := He.glo_ok X G (c.fact 36 (f := .glo "_law_told") rfl)
  obtain ⟨fd37, F37⟩ := c.def_ 37 (d := K37) rfl
  have g37 := He.glo_ok X G (c.fact 37 (f := .glo "law") rfl)
  have e := hfa.symm.trans g37
  cases e
  have bl := FunD.bindsA (ps := [sN "_law_script"]) F37 fun _ _ _ _ _ _ us hl => match us, hl with | [_], _ => rfl
  have hb : ∀ x ∈ bltNames, mg (sN x) = none := fun x hx => He.free_ok X G (c.facts (f := .free (sN x)) (by
    refine List.mem_append_left _ (List.mem_append_right _ ?_)
    exact List.mem_map.mpr ⟨x, hx, rfl⟩))
  have hi : ∀ p ∈ consts, ∃ t, mg (sN p.1) = some (.int p.2 t) := fun p hp => He.int_ok X G (c.facts (f := .int (sN p.1) p.2) (by
    refine List.mem_append_right _ ?_
    exact List.mem_map.mpr ⟨p, hp, rfl⟩))
  refine ⟨fd37, fun s v => bl s [v] rfl, fun base _ _ => ?_⟩
  obtain ⟨fdi0, FI0⟩ := c.def_ 38 (d := KI0) rfl
  obtain ⟨fdi1, FI1⟩ := c.def_ 39 (d := KI1) rfl
  have hI : ∀ c ∈ xcs, ∃ fd : FuncData, (∀ k, 1 ≤ k → FnOk P w K mg base (L2.CX P w) k (iniA K c.1) fd [sN "self", sN c.2] (iniSp K c.2)) ∧ Binds K fd [sN "self", sN c.2] [] := fun c hc => by
    have hc : c = ("BadValue", "name") ∨ c = ("NotPossible", "why") := by simpa [xcs] using hc
    rcases hc with rfl | rfl
    · refine ⟨fdi0, fun k hk => ?_, FI0.bindsN fun _ _ _ _ _ _ us hl => match us, hl with | [_, _], _ => rfl⟩
      obtain ⟨k0, rfl⟩ : ∃ k0, k = k0 + 1 := ⟨k - 1, by omega⟩
      exact ini_ok FI0 chki0
    · refine ⟨fdi1, fun k hk => ?_, FI1.bindsN fun _ _ _ _ _ _ us hl => match us, hl with | [_, _], _ => rfl⟩
      obtain ⟨k0, rfl⟩ : ∃ k0, k = k0 + 1 := ⟨k - 1, by omega⟩
      exact ini_ok FI1 chki1
  have hW : WlOk ⟨P, w, K, mg, base, (caOf K xcs), (xfOf xcs), (xcs.map (·.1))⟩ := ⟨hb, exs_ok X G cX hI (by decide +kernel), xc_ok X G cX⟩
  have h0 : FnsOk ⟨P, w, K, mg, base, (caOf K xcs), (xfOf xcs), (xcs.map (·.1))⟩ 1 C0 ∧ GlsOk ⟨P, w, K, mg, base, (caOf K xcs), (xfOf xcs), (xcs.map (·.1))⟩ C0 := ⟨fun _ _ e => (by cases e), gls_all (W := ⟨P, w, K, mg, base, (caOf K xcs), (xfOf xcs), (xcs.map (·.1))⟩) X G hi cT⟩
  have h1 := step (d := D_is_between) (st := s0) hW (by omega) h0.1 h0.2 F0 chk0 g0 (F0.bindsN fun _ _ _ _ _ _ us hl => match us, hl with | [_, _, _], _ => rfl)
  have h2 := step (d := D_is_side) (st := s1) hW (by omega) h1.1 h1.2 F1 chk1 g1 (F1.bindsN fun _ _ _ _ _ _ us hl => match us, hl with | [_], _ => rfl)
  have h3 := step (d := D_is_rule) (st := s2) hW (by omega) h2.1 h2.2 F2 chk2 g2 (F2.bindsN fun _ _ _ _ _ _ us hl => match us, hl with | [_, _], _ => rfl)
  have h4 := step (d := D_is_net) (st := s3) hW (by omega) h3.1 h3.2 F3 chk3 g3 (F3.bindsN fun _ _ _ _ _ _ us hl => match us, hl with | [_], _ => rfl)
  have h5 := step (d := D_excess_of) (st := s4) hW (by omega) h4.1 h4.2 F4 chk4 g4 (F4.bindsN fun _ _ _ _ _ _ us hl => match us, hl with | [_, _], _ => rfl)
  have h6 := step (d := D_all_hold) (st := s5) hW (by omega) h5.1 h5.2 F5 chk5 g5 (F5.bindsN fun _ _ _ _ _ _ us hl => match us, hl with | [_, _], _ => rfl)
  have h7 := step (d := D_edges_of) (st := s6) hW (by omega) h6.1 h6.2 F6 chk6 g6 (F6.bindsN fun _ _ _ _ _ _ us hl => match us, hl with | [_], _ => rfl)
  have h8 := step (d := D_edge_of) (st := s7) hW (by omega) h7.1 h7.2 F7 chk7 g7 (F7.bindsN fun _ _ _ _ _ _ us hl => match us, hl with | [_, _], _ => rfl)
  have h9 := step (d := D_walk_end) (st := s8) hW (by omega) h8.1 h8.2 F8 chk8 g8 (F8.bindsN fun _ _ _ _ _ _ us hl => match us, hl with | [_, _, _], _ => rfl)
  have h10 := step (d := D_length_of) (st := s9) hW (by omega) h9.1 h9.2 F9 chk9 g9 (F9.bindsN fun _ _ _ _ _ _ us hl => match us, hl with | [_, _], _ => rfl)
  have h11 := step (d := D_is_integer) (st := s10) hW (by omega) h10.1 h10.2 F10 chk10 g10 (F10.bindsN fun _ _ _ _ _ _ us hl => match us, hl with | [_], _ => rfl)
  have h12 := step (d := D_check_net_k15) (st := s11) hW (by omega) h11.1 h11.2 F11 chk11 g11 (F11.bindsN fun _ _ _ _ _ _ us hl => match us, hl with | [_], _ => rfl)
  have h13 := step (d := D_longer_walks) (st := s12) hW (by omega) h12.1 h12.2 F12 chk12 g12 (F12.bindsN fun _ _ _ _ _ _ us hl => match us, hl with | [_, _], _ => rfl)
  have h14 := step (d := D_first_round) (st := s13) hW (by omega) h13.1 h13.2 F13 chk13 g13 (F13.bindsN fun _ _ _ _ _ _ us hl => match us, hl with | [_], _ => rfl)
  have h15 := step (d := D_with_walk) (st := s15) hW (by omega) h14.1 h14.2 F15 chk15 g15 (F15.bindsN fun _ _ _ _ _ _ us hl => match us, hl with | [_, _, _], _ => rfl)
  have h16 := step (d := D_shortest_walks) (st := s14) hW (by omega) h15.1 h15.2 F14 chk14 g14 (F14.bindsN fun _ _ _ _ _ _ us hl => match us, hl with | [_], _ => rfl)
  have h17 := step (d := D_bounds_of) (st := s16) hW (by omega) h16.1 h16.2 F16 chk16 g16 (F16.bindsN fun _ _ _ _ _ _ us hl => match us, hl with | [_], _ => rfl)
  have h18 := step (d := D_can_keep) (st := s17) hW (by omega) h17.1 h17.2 F17 chk17 g17 (F17.bindsN fun _ _ _ _ _ _ us hl => match us, hl with | [_], _ => rfl)
  have h19 := step (d := D_check_kept_X) (st := s18) hW (by omega) h18.1 h18.2 F18 chk18 g18 (F18.bindsN fun _ _ _ _ _ _ us hl => match us, hl with | [_], _ => rfl)
  have h20 := step (d := D_tight) (st := s19) hW (by omega) h19.1 h19.2 F19 chk19 g19 (F19.bindsN fun _ _ _ _ _ _ us hl => match us, hl with | [_], _ => rfl)
  have h21 := step (d := D_told_round) (st := s20) hW (by omega) h20.1 h20.2 F20 chk20 g20 (F20.bindsN fun _ _ _ _ _ _ us hl => match us, hl with | [_], _ => rfl)
  have h22 := step (d := D_heights_of) (st := s21) hW (by omega) h21.1 h21.2 F21 chk21 g21 (F21.bindsN fun _ _ _ _ _ _ us hl => match us, hl with | [_], _ => rfl)
  have h23 := step (d := D_some_heights) (st := s22) hW (by omega) h22.1 h22.2 F22 chk22 g22 (F22.bindsN fun _ _ _ _ _ _ us hl => match us, hl with | [_], _ => rfl)
  have h24 := step (d := D_are_heights) (st := s23) hW (by omega) h23.1 h23.2 F23 chk23 g23 (F23.bindsN fun _ _ _ _ _ _ us hl => match us, hl with | [_, _], _ => rfl)
  have h25 := step (d := D_are_right) (st := s24) hW (by omega) h24.1 h24.2 F24 chk24 g24 (F24.bindsN fun _ _ _ _ _ _ us hl => match us, hl with | [_, _], _ => rfl)
  have h26 := step (d := D_shows_kept) (st := s25) hW (by omega) h25.1 h25.2 F25 chk25 g25 (F25.bindsN fun _ _ _ _ _ _ us hl => match us, hl with | [_, _], _ => rfl)
  have h27 := step (d := D_shows_round) (st := s26) hW (by omega) h26.1 h26.2 F26 chk26 g26 (F26.bindsN fun _ _ _ _ _ _ us hl => match us, hl with | [_, _], _ => rfl)
  have h28 := step (d := D_is_event_b) (st := s27) hW (by omega) h27.1 h27.2 F27 chk27 g27 (F27.bindsN fun _ _ _ _ _ _ us hl => match us, hl with | [_, _], _ => rfl)
  have h29 := step (d := D_check_two) (st := s28) hW (by omega) h28.1 h28.2 F28 chk28 g28 (F28.bindsN fun _ _ _ _ _ _ us hl => match us, hl with | [_, _, _], _ => rfl)
  have h30 := step (d := D_pulled) (st := s29) hW (by omega) h29.1 h29.2 F29 chk29 g29 (F29.bindsN fun _ _ _ _ _ _ us hl => match us, hl with | [_, _], _ => rfl)
  have h31 := step (d := D_bound_evidence) (st := s30) hW (by omega) h30.1 h30.2 F30 chk30 g30 (F30.bindsN fun _ _ _ _ _ _ us hl => match us, hl with | [_, _, _], _ => rfl)
  have h32 := step (d := D_is_set) (st := s31) hW (by omega) h31.1 h31.2 F31 chk31 g31 (F31.bindsN fun _ _ _ _ _ _ us hl => match us, hl with | [_, _], _ => rfl)
  have h33 := step (d := D_accepts_bound) (st := s32) hW (by omega) h32.1 h32.2 F32 chk32 g32 (F32.bindsN fun _ _ _ _ _ _ us hl => match us, hl with | [_, _, _, _, _], _ => rfl)
  have h34 := step (d := D_law_stream) (st := s33) hW (by omega) h33.1 h33.2 F33 chk33 g33 (F33.bindsN fun _ _ _ _ _ _ us hl => match us, hl with | [_], _ => rfl)
  have h35 := step (d := D_law_next) (st := s34) hW (by omega) h34.1 h34.2 F34 chk34 g34 (F34.bindsN fun _ _ _ _ _ _ us hl => match us, hl with | [_, _], _ => rfl)
  have h36 := step (d := D_law_ask) (st := s35) hW (by omega) h35.1 h35.2 F35 chk35 g35 (F35.bindsN fun _ _ _ _ _ _ us hl => match us, hl with | [_, _], _ => rfl)
  have h37 := step (d := D_law_told) (st := s36) hW (by omega) h36.1 h36.2 F36 chk36 g36 (F36.bindsN fun _ _ _ _ _ _ us hl => match us, hl with | [_, _], _ => rfl)
  exact def_ok (d := D_law) (st := s37) hW (by omega) h37.1 h37.2 F37 chk37

end Bide
open PySem PySem.W PySem.Calls PyProof.Rows
theorem PySem.Challenge.cw_allbide_k15_refusals_of_bounds_holds : PySem.Challenge.rw_allbide_k15_refusals_of_bounds.Holds := by
  w_on; o_law
  refine HandSHeadRun.head_any (r := OpenLaw.row PySem.Challenge.rw_allbide_k15_refusals_of_bounds) (q := view (OpenLaw.row PySem.Challenge.rw_allbide_k15_refusals_of_bounds).prog [48]) (H := Bide.hk) (ob := Bide.ob) (M := 6000) (loose := Bide.loose) (d := HandSHeadRun.topDef (OpenLaw.row PySem.Challenge.rw_allbide_k15_refusals_of_bounds).prog 48) (kwd := []) Bide.ob_eq
    (by kernel_rfl) (fun s => by kernel_rfl) Bide.run (by kernel_rfl) (by kernel_rfl) (by kernel_rfl) (by rfl) (by first | assumption | decide +kernel) (by decide +kernel) ⟨rfl, rfl, rfl, rfl, rfl, by decide +kernel⟩ ?hw ?hc
  case hw => w_witness2
  case hc =>
    refine L2.walk_ofE (l := PySem.Challenge.rw_allbide_k15_refusals_of_bounds) (n := 63) (k := 77) (x := Bide.sN "_law_script") (CX := L2.CX0) rfl (by decide) (by kernel_rfl) ⟨rfl, by decide, by decide⟩ ?F (fun _ _ _ _ z => z)
    intro w mg fa h Y G hmg0
    obtain ⟨K, KX, c⟩ := Y
    have hmg : mg ("law" : PySem.Str) = some (.ref fa) := by
      have e : (HandSHeadRun.topDef (OpenLaw.row PySem.Challenge.rw_allbide_k15_refusals_of_bounds).prog 48).name = ("law" : PySem.Str) := by kernel_rfl
      rw [← e]
      exact hmg0
    obtain ⟨fd, hb, hF⟩ := Bide.facts (P := (PySem.Challenge.rw_allbide_k15_refusals_of_bounds).prog) (w := w) KX G hmg c
    exact ⟨K, fd, (fun vs H Q _ => Bide.spOf K (Bide.caOf K Bide.xcs) (Bide.xfOf Bide.xcs) (Bide.D_law.fn Bide.C37) vs H Q L2.E0), KX, hb, Bide.law_sp0 (by decide) rfl Bide.law_true, fun base h1 h2 => Bide.fn_cx0 (hF base h1 h2)⟩

