import PyProof.Rows.All
import Wide.All
import OpenK.AllK
import Wide.FinOn
import KE.KStateDown
import HandS.ForMost
import HandS.ForExc
import HandS.CallSlots
import HandS.Defaults
import HandS.Head0
import HandS.Head1
import HandS.Head2
import HandS.HeadEnd
import HandS.HeadHook1
import HandS.HeadHook2
import HandS.HeadHook3
import HandS.HeadHook4
import HandS.HeadWalk
import PySem.PyData
import PyProof.P3Statements
import PyProof.EqLayable
import KE.SortData
import HandS.ExcField
import HandS.ExcIs
import HandS.More
import HandS.Deep
import HandS.ListItems
import KE.KLam
import KE.SortKeyHeap
import HandS.Lambda
import HandS.SortKw
import HandS.Walk
import HandS.Zip
import KE.GoesMore
import HandS.TupLen
import KE.DataMinMax
import PyProof.Rows.TupReads
import HandS.TupAny
import HandS.TupMul
import HandS.Style
import HandS.IsInst
import HandS.SortInts
import HandS.Conv
import HandS.Flow
import HandS.SetFor
import HandS.DictComp
import HandS.NoneIn
import KE.GoesEnum
import HandS.TryMany
import PySem.Challenge.RW_allbide_k46_whole_shifted_and_mirrored
set_option autoImplicit false
set_option Elab.async false
set_option maxRecDepth 100000
set_option linter.all false
set_option maxHeartbeats 0
namespace Bide
open PySem L2
abbrev D := PyData
def sN (x : String) : Str := Str.ofString x
def bltNames : List String := ["len", "abs", "int", "sum", "all", "any", "max", "min", "tuple", "list", "sorted", "isinstance", "range", "enumerate", "zip", "bool", "str", "ValueError"]
def dvOf : D → He.Dv
  | .int i => .int i
  | .str x => .str x
  | .bool b => .bl b
  | _ => .non
def flatC : D → Bool
  | .int _ => true
  | .str _ => true
  | .bool _ => true
  | .none => true
  | _ => false
abbrev tupsB (cT : List (String × List D)) (K : PySem.W.Frag) : Bool := cT.all fun t => He.eqO (PySem.W.nsIn K mainGlobals (sN t.1)) (some (some (.ref (He.ga K (sN t.1))))) && (He.tupB K (sN t.1) (t.2.map dvOf) && (t.2.all flatC && decide (t.2.length ≤ 1000)))
section
open He
def obsE (fa : List Fa) (fn : List DefD) (ex : PySem.W.Frag → Bool) (K : PySem.W.Frag) : AlD := ((obsD fa fn K).1 && ex K, (obsD fa fn K).2)
def SaysE (fa : List Fa) (fn : List DefD) (ex : PySem.W.Frag → Bool) (K : PySem.W.Frag) : Prop := obsE fa fn ex K = valD fn
def obsEG (n : Nat) (fa : List Fa) (fn : List DefD) (ex : PySem.W.Frag → Bool) (g : Addr → Option Obj) : AlD := obsE fa fn ex (frG g (asD g n))
def hookE (n : Nat) (fa : List Fa) (fn : List DefD) (ex : PySem.W.Frag → Bool) : PySem.W.Hook where
  α := AlD
  obs := fun s => obsEG n fa fn ex s.heap.get?
  val := fun _ => valD fn
  says := fun _ h => ∃ K : PySem.W.Frag, K.In h ∧ SaysE fa fn ex K
  of := fun _ _ e => ⟨_, frG_in, e⟩
  keeps := fun _ _ _ ⟨K, hK, c⟩ k => ⟨K, PySem.W.Frag.In.keeps hK k, c⟩
theorem obsEG_eq {n : Nat} {fa : List Fa} {fn : List DefD} {ex : PySem.W.Frag → Bool} {g : Addr → Option Obj} {s : Shared} (h : ∀ a, g a = s.heap.get? a) : obsEG n fa fn ex g = (hookE n fa fn ex).obs s := by
  have e : g = s.heap.get? := funext h
  rw [e] <;> rfl
end
def consts : List (String × Int) := [("MOST_EVENT", 5), ("MOST_TIME", 500), ("MOST_STEPS", 16)]
def constsT : List (String × List D) := []
open PySem PySem.Spec PyProof.Rows L2
namespace HdR
/-! ### the head -/
def top (i : Nat) : Stmt := PySem.Challenge.pw_allbide_k46_whole_shifted_and_mirrored.main.body.getD i (.Pass ⟨0, 0, 0, 0⟩)
abbrev s0 : Stmt := top 4
abbrev K0 : He.DefD := ⟨("is_integer", none), "is_integer", "is_integer", defArgs s0, defBody s0, defScope s0, [], []⟩
abbrev s1 : Stmt := top 9
abbrev K1 : He.DefD := ⟨("is_event_time", none), "is_event_time", "is_event_time", defArgs s1, defBody s1, defScope s1, [], []⟩
abbrev s2 : Stmt := top 10
abbrev K2 : He.DefD := ⟨("is_step", none), "is_step", "is_step", defArgs s2, defBody s2, defScope s2, [], []⟩
abbrev s3 : Stmt := top 11
abbrev K3 : He.DefD := ⟨("are_steps", none), "are_steps", "are_steps", defArgs s3, defBody s3, defScope s3, [], []⟩
abbrev s4 : Stmt := top 12
abbrev K4 : He.DefD := ⟨("check_steps", none), "check_steps", "check_steps", defArgs s4, defBody s4, defScope s4, [], []⟩
abbrev s5 : Stmt := top 13
abbrev K5 : He.DefD := ⟨("do_commute", none), "do_commute", "do_commute", defArgs s5, defBody s5, defScope s5, [], []⟩
abbrev s6 : Stmt := top 14
abbrev K6 : He.DefD := ⟨("layers_in", none), "layers_in", "layers_in", defArgs s6, defBody s6, defScope s6, [], []⟩
abbrev s7 : Stmt := top 15
abbrev K7 : He.DefD := ⟨("layers", none), "layers", "layers", defArgs s7, defBody s7, defScope s7, [], []⟩
abbrev s8 : Stmt := top 17
abbrev K8 : He.DefD := ⟨("is_stronger", none), "is_stronger", "is_stronger", defArgs s8, defBody s8, defScope s8, [], []⟩
abbrev s9 : Stmt := top 18
abbrev K9 : He.DefD := ⟨("makes_idle", none), "makes_idle", "makes_idle", defArgs s9, defBody s9, defScope s9, [], []⟩
abbrev s10 : Stmt := top 19
abbrev K10 : He.DefD := ⟨("why_idle", none), "why_idle", "why_idle", defArgs s10, defBody s10, defScope s10, [], []⟩
abbrev s11 : Stmt := top 20
abbrev K11 : He.DefD := ⟨("idle_steps", none), "idle_steps", "idle_steps", defArgs s11, defBody s11, defScope s11, [], []⟩
abbrev s12 : Stmt := top 21
abbrev K12 : He.DefD := ⟨("first_idle", none), "first_idle", "first_idle", defArgs s12, defBody s12, defScope s12, [], []⟩
abbrev s13 : Stmt := top 22
abbrev K13 : He.DefD := ⟨("reduction_of", none), "reduction_of", "reduction_of", defArgs s13, defBody s13, defScope s13, [], []⟩
abbrev s14 : Stmt := top 23
abbrev K14 : He.DefD := ⟨("remaining_of", none), "remaining_of", "remaining_of", defArgs s14, defBody s14, defScope s14, [], []⟩
abbrev s15 : Stmt := top 24
abbrev K15 : He.DefD := ⟨("remaining", none), "remaining", "remaining", defArgs s15, defBody s15, defScope s15, [], []⟩
abbrev s16 : Stmt := top 25
abbrev K16 : He.DefD := ⟨("reduction", none), "reduction", "reduction", defArgs s16, defBody s16, defScope s16, [], []⟩
abbrev s17 : Stmt := top 27
abbrev K17 : He.DefD := ⟨("_law_stream", none), "_law_stream", "_law_stream", defArgs s17, defBody s17, defScope s17, [], []⟩
abbrev s18 : Stmt := top 28
abbrev K18 : He.DefD := ⟨("_law_next", none), "_law_next", "_law_next", defArgs s18, defBody s18, defScope s18, [], []⟩
abbrev s19 : Stmt := top 29
abbrev K19 : He.DefD := ⟨("_law_is_integer", none), "_law_is_integer", "_law_is_integer", defArgs s19, defBody s19, defScope s19, [], []⟩
abbrev s20 : Stmt := top 30
abbrev K20 : He.DefD := ⟨("_law_news", none), "_law_news", "_law_news", defArgs s20, defBody s20, defScope s20, [], []⟩
abbrev s21 : Stmt := top 31
abbrev K21 : He.DefD := ⟨("_law_steps", none), "_law_steps", "_law_steps", defArgs s21, defBody s21, defScope s21, [], []⟩
abbrev s22 : Stmt := top 32
abbrev K22 : He.DefD := ⟨("_law_some_steps", none), "_law_some_steps", "_law_some_steps", defArgs s22, defBody s22, defScope s22, [], []⟩
abbrev s23 : Stmt := top 33
abbrev K23 : He.DefD := ⟨("_law_commute", none), "_law_commute", "_law_commute", defArgs s23, defBody s23, defScope s23, [], []⟩
abbrev s24 : Stmt := top 34
abbrev K24 : He.DefD := ⟨("_law_idle_by", none), "_law_idle_by", "_law_idle_by", defArgs s24, defBody s24, defScope s24, [], []⟩
abbrev s25 : Stmt := top 35
abbrev K25 : He.DefD := ⟨("_law_told_reduction", none), "_law_told_reduction", "_law_told_reduction", defArgs s25, defBody s25, defScope s25, [], []⟩
abbrev s26 : Stmt := top 36
abbrev K26 : He.DefD := ⟨("_law_remaining", none), "_law_remaining", "_law_remaining", defArgs s26, defBody s26, defScope s26, [], []⟩
abbrev s27 : Stmt := top 37
abbrev K27 : He.DefD := ⟨("_law_layers", none), "_law_layers", "_law_layers", defArgs s27, defBody s27, defScope s27, [], []⟩
abbrev s28 : Stmt := top 38
abbrev K28 : He.DefD := ⟨("_law_names", none), "_law_names", "_law_names", defArgs s28, defBody s28, defScope s28, [], []⟩
abbrev s29 : Stmt := top 39
abbrev K29 : He.DefD := ⟨("law", none), "law", "law", defArgs s29, defBody s29, defScope s29, [], []⟩
abbrev fn : List He.DefD := [K0, K1, K2, K3, K4, K5, K6, K7, K8, K9, K10, K11, K12, K13, K14, K15, K16, K17, K18, K19, K20, K21, K22, K23, K24, K25, K26, K27, K28, K29]
abbrev fa : List He.Fa := [.glo "is_integer", .glo "is_event_time", .glo "is_step", .glo "are_steps", .glo "check_steps", .glo "do_commute", .glo "layers_in", .glo "layers", .glo "is_stronger", .glo "makes_idle", .glo "why_idle", .glo "idle_steps", .glo "first_idle", .glo "reduction_of", .glo "remaining_of", .glo "remaining", .glo "reduction", .glo "_law_stream", .glo "_law_next", .glo "_law_is_integer", .glo "_law_news", .glo "_law_steps", .glo "_law_some_steps", .glo "_law_commute", .glo "_law_idle_by", .glo "_law_told_reduction", .glo "_law_remaining", .glo "_law_layers", .glo "_law_names", .glo "law"] ++ (bltNames.map fun x => .free (sN x)) ++ (consts.map fun x => .int (sN x.1) x.2)
def loose0 : List PySem.Str := ["BideError", "BadValue", "is_integer", "MOST_EVENT", "MOST_TIME", "MOST_STEPS", "is_event_time", "is_step", "are_steps", "check_steps", "do_commute", "layers_in", "layers", "is_stronger", "makes_idle", "why_idle", "idle_steps", "first_idle", "reduction_of", "remaining_of", "remaining", "reduction", "_law_stream", "_law_next", "_law_is_integer"]
def loose1 : List PySem.Str := ["_law_news", "_law_steps", "_law_some_steps", "_law_commute", "_law_idle_by", "_law_told_reduction", "_law_remaining", "_law_layers", "_law_names"]
abbrev loose : List PySem.Str := loose0 ++ loose1
abbrev Rw : PySem.W.OpenRow := PySem.W.OpenLaw.row PySem.Challenge.rw_allbide_k46_whole_shifted_and_mirrored
abbrev hk : PySem.W.Hook := He.hookX 4 fa fn [] [("layers_in", none)] (tupsB constsT)
def ob (s : PySem.W.SharedT) : He.AlX := He.obsX 4 fa fn [] [("layers_in", none)] (tupsB constsT) (HandSHeadRun.getT s)
theorem ob_eq (s : PySem.W.SharedT) : ob s = hk.obs s.abs := He.obsX_eq (HandSHeadRun.getT_eq s)
theorem run (w : World) : HandSHeadRun.RunEq Rw (PySem.W.view Rw.prog [39]) hk ob 6000 loose w := by
  intro os
  kernel_rfl
end HdR
end Bide

set_option autoImplicit false
/-! A small language of pure data: what the program's functions compute, as a total function of plain data. -/
namespace Bide
open PySem


/-- the content of an object that one name alone holds -/
inductive OV where
  | l (ds : List D)
  | d (t : Bool) (kvs : List (D × D))
  | ll (dss : List (List D))
def OV.val : OV → D
  | .l ds => .list ds
  | .d t kvs => .dict ((.bool t, .none) :: kvs)
  | .ll dss => .list (dss.map .list)
/-- a slot: empty, a shared value, an owned object, an owned list that a caller lent -/
inductive SV where
  | no
  | sh (d : D)
  | ow (o : OV)
  | io (ds : List D)
abbrev Ev := List SV
/-- a result: a shared value, a new object, the object of a slot -/
inductive RV where
  | v (d : D)
  | f (o : OV)
  | s (i : Nat)
structure Exc where
  c : String
  fs : List D
inductive R (α : Type) where
  | ok (a : α) (e : Ev)
  | ex (x : Exc) (e : Ev)
  | bad
/-- what a function gives -/
inductive FR where
  | ok (r : RV) (outs : List (List D))
  | ex (x : Exc)
  | bad
structure Fn where
  io : List Bool
  run : List D → FR

inductive Bop | add | sub | mul | fdiv | mod | pow
inductive Cop | eq | ne | lt | le | gt | ge | isN | notN | isB | notB | inn | notin
inductive Blt | len | abs | int | sum | all | any | max1 | min1 | max2 | min2 | tuple | list | sorted
inductive Ty | int | bool | str | tuple | list
inductive Mth | append | extend | pop1 | remove

mutual
inductive E where
  | var (i : Nat)
  | non
  | bl (b : Bool)
  | int (i : Int)
  | str (s : String)
  | glo (x : String)
  | bin (o : Bop) (a b : E)
  | neg (a : E)
  | cmp (o : Cop) (a b : E)
  | chn (o p : Cop) (a b c : E)
  | and (a b : E)
  | or (a b : E)
  | not (a : E)
  | ife (t : T) (a b : E)
  | tup (es : Es)
  | lst (es : Es)
  | dnew (t : Bool)
  | idx (a b : E)
  | idx2 (i : Nat) (a : E) (j : Nat)
  | slc (a : E) (lo hi : O)
  | dget (a b : E)
  | call (f : String) (es : Es)
  | blt (f : Blt) (es : Es)
  | lrg (a : E)
  | lrg2 (a b : E)
  | trg (a : E)
  | rev (a : E)
  | isi (a : E) (t : Ty)
  | mth1 (m : Mth) (i : Nat) (e : E)
  | pop0 (i : Nat)
  | ins (i : Nat) (a b : E)
  | ixof (a b : E)
  | dlit (k v : E)
  | dg1 (a b : E)
  | dg2 (a b d : E)
  | items (i : Nat)
  | strI (a : E)
  | srtk (x : String) (a : E)
  | lc (own : List Nat) (tg : List Nat) (tup : Bool) (it : It) (c : C) (e : E)
  | lco (own : List Nat) (tg : List Nat) (tup : Bool) (i : Nat) (c : C) (e : E)
  | lc2 (own : List Nat) (tg : List Nat) (tup : Bool) (it : It) (c : C) (e : E)
  | dc (kt : Bool) (own : List Nat) (tg : List Nat) (tup : Bool) (it : It) (c : C) (k v : E)
  | dck (kt : Bool) (own : List Nat) (tg : List Nat) (tup : Bool) (i : Nat) (c : C) (k v : E)
inductive T where
  | val (e : E)
  | and (a b : T)
  | or (a b : T)
  | not (a : T)
inductive Es where
  | nil
  | cons (e : E) (es : Es)
inductive O where
  | no
  | so (e : E)
inductive C where
  | no
  | so (t : T)
inductive It where
  | seq (e : E)
  | rng (a : E)
  | rng2 (a b : E)
  | enum (e : E)
  | zip (a b : E)
end

/-- what an except suite returns: a field of the exception, or a list of a word and a field -/
inductive Hx where
  | fld (j : Nat) (f : String)
  | lst (s : String) (j : Nat) (f : String)
  | tup (s : String) (j : Nat) (f : String)
/-- parts of what an except suite returns -/
inductive HA where
  | fld (j : Nat) (f : String)
  | str (s : String)
  | non
  | bl (b : Bool)
  | isi (c : String)
inductive HX where
  | one (a : HA)
  | tup (as : List HA)
  | lst (as : List HA)
/-- an except suite: its class, its name's slot, what it returns by tests of the class, and else -/
structure Hd where
  c : String
  sl : Option Nat
  ts : List (List String × HX)
  el : HX
mutual
inductive S where
  | asg (i : Nat) (e : E)
  | unp (is : List Nat) (e : E)
  | unl (is : List Nat) (e : E)
  | sti (i : Nat) (a v : E)
  | st2 (i : Nat) (a : E) (j : Nat) (v : E)
  | std (i : Nat) (k v : E)
  | xpr (e : E)
  | ife (t : T) (a b : Ss)
  | forr (tg : List Nat) (tup : Bool) (it : It) (b : Ss)
  | fork (tg : List Nat) (tup : Bool) (i : Nat) (b : Ss)
  | whl (n : Nat) (t : T) (b : Ss)
  | ret (e : E)
  | retN
  | rse (c : String) (es : Es)
  | trx (b : Ss) (x : String) (i : Nat) (h : Hx)
  | trm (b : Ss) (hs : List Hd)
  | unn (is js : List Nat) (e : E)
  | sw2 (i : Nat) (a b v u : E)
  | pass
  | brk
  | cont
  | nev
inductive Ss where
  | nil
  | cons (a : S) (b : Ss)
end

inductive Fl where
  | nx
  | br
  | ct
  | rt (r : RV)

/-! ### reading and sharing -/
def rd (ev : Ev) : RV → Option D
  | .v d => some d
  | .f o => some o.val
  | .s i => match ev[i]? with
    | some (.sh d) => some d
    | some (.ow (.l ds)) => some (.list ds)
    | some (.ow (.d t k)) => some (.dict ((.bool t, .none) :: k))
    | some (.io ds) => some (.list ds)
    | _ => none
def esc (ev : Ev) : RV → Option (D × Ev)
  | .v d => some (d, ev)
  | .f o => some (o.val, ev)
  | .s i => match ev[i]? with
    | some (.sh d) => some (d, ev)
    | some (.ow o) => some (o.val, ev.set i (.sh o.val))
    | _ => none
/-- an operand that waits for the others is shared -/
def stl : RV → RV
  | .f o => .v o.val
  | r => r
def rds (ev : Ev) : List RV → Option (List D)
  | [] => some []
  | r :: rs => match rd ev r, rds ev rs with
    | some d, some ds => some (d :: ds)
    | _, _ => none
def escs : Ev → List RV → Option (List D × Ev)
  | ev, [] => some ([], ev)
  | ev, r :: rs => match esc ev r with
    | some (d, ev1) => match escs ev1 rs with
      | some (ds, ev2) => some (d :: ds, ev2)
      | none => none
    | none => none
/-- the arguments: shared, or lent -/
def lend : Ev → List Bool → List RV → Option (List D × List Nat × Ev)
  | ev, [], [] => some ([], [], ev)
  | ev, false :: bs, r :: rs => match esc ev r with
    | some (d, ev1) => match lend ev1 bs rs with
      | some (ds, ls, ev2) => some (d :: ds, ls, ev2)
      | none => none
    | none => none
  | ev, true :: bs, .s i :: rs => match lend ev bs rs with
    | some (ds, ls, ev2) => match ev2[i]? with
      | some (.ow (.l xs)) => if i ∈ ls then none else some (.list xs :: ds, i :: ls, ev2)
      | some (.io xs) => if i ∈ ls then none else some (.list xs :: ds, i :: ls, ev2)
      | _ => none
    | none => none
  | _, _, _ => none
def giveBack : Ev → List Nat → List (List D) → Option Ev
  | ev, [], [] => some ev
  | ev, i :: is, xs :: xss => match ev[i]? with
    | some (.ow _) => giveBack (ev.set i (.ow (.l xs))) is xss
    | some (.io _) => giveBack (ev.set i (.io xs)) is xss
    | _ => none
  | _, _, _ => none

/-! ### operations on data -/
def line : Nat := 16777216
def truth : D → Option Bool
  | .none => some false
  | .bool b => some b
  | .int i => some (i != 0)
  | .str x => if x.length ≤ line then some ((x.length : Int) != 0) else none
  | .list xs => some (!xs.isEmpty)
  | .tuple xs => some (!xs.isEmpty)
  | .dict _ => none
/-- an expression's value as a test: a dict's truth, too -/
def truT : D → Option Bool
  | .dict ((.bool false, .none) :: kvs) => some (!kvs.isEmpty)
  | d => truth d
def bop : Bop → D → D → Option RV
  | .add, .int i, .int j => some (.v (.int (i + j)))
  | .add, .str x, .str y => if x.length + y.length ≤ line then some (.v (.str (x ++ y))) else none
  | .add, .tuple xs, .tuple ys => if xs.length + ys.length ≤ line then some (.v (.tuple (xs ++ ys))) else none
  | .add, .list xs, .list ys => if xs.length + ys.length ≤ line then some (.f (.l (xs ++ ys))) else none
  | .sub, .int i, .int j => some (.v (.int (i - j)))
  | .mul, .int i, .int j => if (-(2 ^ 64) < i ∧ i < 2 ^ 64) ∨ (-(2 ^ 64) < j ∧ j < 2 ^ 64) then some (.v (.int (i * j))) else none
  | .mul, .tuple xs, .int j => if xs ≠ [] ∧ 2 ≤ j ∧ j ≤ 1000 ∧ xs.length ≤ 1000 then some (.v (.tuple (List.replicate j.toNat xs).flatten)) else none
  | .mul, .list xs, .int j => if xs.length * j.toNat ≤ line ∧ j < 2 ^ 62 ∧ -(2 ^ 62) < j then some (.f (.l (List.replicate j.toNat xs).flatten)) else none
  | .fdiv, .int i, .int j => if 0 < j ∧ j < 1073741824 then some (.v (.int (i / j))) else none
  | .mod, .int i, .int j => if 0 < j then some (.v (.int (i % j))) else none
  | .pow, .int i, .int j => if 0 ≤ j ∧ j ≤ 1000000 ∧ i.natAbs < 2 ^ 64 then some (.v (.int (i ^ j.toNat))) else none
  | _, _, _ => none
def flat : D → Bool
  | .none => true
  | .bool _ => true
  | .int _ => true
  | .str _ => true
  | _ => false
/-- a key of a dict -/
def keyOk : D → Bool
  | .int _ => true
  | .str _ => true
  | _ => false
def keyOkT : Bool → D → Bool
  | false, k => keyOk k
  | true, .tuple ks => ks.all keyOk
  | true, _ => false
def sameKey : D → D → Bool
  | .int i, .int j => i == j
  | .str x, .str y => x == y
  | .tuple xs, .tuple ys => PyData.eqvAll xs ys
  | _, _ => false
def getKV : List (D × D) → D → Option D
  | [], _ => none
  | (k, v) :: r, x => if sameKey k x then some v else getKV r x
def putKV (kvs : List (D × D)) (x y : D) : List (D × D) :=
  if (kvs.any fun kv => sameKey kv.1 x) = true then kvs.map (fun kv => if sameKey kv.1 x = true then (kv.1, y) else kv) else kvs ++ [(x, y)]
def dIn (d : D) : D → Option Bool
  | .list xs => if SeqAt.shaped d = true ∧ SeqAt.shaped (.list xs) = true then some (xs.any fun y => PyData.eqv y d) else none
  | .tuple xs => if flat d = true ∧ xs.all flat = true then some (xs.any fun y => PyData.eqv y d) else none
  | .dict [(.none, .tuple xs)] => if flat d = true ∧ xs.all flat = true then some (xs.any fun y => PyData.eqv y d) else none
  | .dict ((.bool t, .none) :: kvs) => if keyOkT t d = true then some (getKV kvs d).isSome else none
  | _ => none
def isNone : D → Bool
  | .none => true
  | _ => false
def cop : Cop → D → D → Option Bool
  | .eq, d, e => if SeqAt.shaped d = true ∧ SeqAt.shaped e = true then some (PyData.eqv d e) else none
  | .ne, d, e => if SeqAt.shaped d = true ∧ SeqAt.shaped e = true then some (!PyData.eqv d e) else none
  | .lt, .int i, .int j => some (decide (i < j))
  | .le, .int i, .int j => some (decide (i ≤ j))
  | .gt, .int i, .int j => some (decide (j < i))
  | .ge, .int i, .int j => some (decide (j ≤ i))
  | .isB, .bool a, .bool b => some (decide (a = b))
  | .notB, .bool a, .bool b => some (!decide (a = b))
  | .isN, d, .none => some (isNone d)
  | .notN, d, .none => some (!isNone d)
  | .inn, d, e => dIn d e
  | .notin, d, e => (dIn d e).map not
  | _, _, _ => none
def intsL : List D → Option (List Int)
  | [] => some []
  | .int i :: r => (intsL r).map (i :: ·)
  | _ :: _ => none
def bls : List D → Option (List Bool)
  | [] => some []
  | .bool b :: r => (bls r).map (b :: ·)
  | _ :: _ => none
def maxI : Int → List Int → Int
  | m, [] => m
  | m, x :: r => maxI (if x > m then x else m) r
def minI : Int → List Int → Int
  | m, [] => m
  | m, x :: r => minI (if x < m then x else m) r
def insI (x : Int) : List Int → List Int
  | [] => [x]
  | y :: r => if x ≤ y then x :: y :: r else y :: insI x r
def sortI : List Int → List Int
  | [] => []
  | x :: r => insI x (sortI r)
/-- data that can be sorted -/
def tupNE : D → Bool
  | .tuple (_ :: _) => true
  | _ => false
def srtB (ds : List D) : Bool := ds.all (fun d => ds.all fun e => PySem.W.alike d e) && (ds.all tupNE && ds.all fun d => d.canLay0 && decide (d.depth ≤ 60))
def lowS : Str := Str.ofString "lower"
/-- the key of a step -/
def keyL : D → D
  | .tuple [.str z, .int x, .int y] => .tuple [.bool (z == lowS), .int x, .int y]
  | _ => .none
def isStp : D → Bool
  | .tuple [.str _, .int _, .int _] => true
  | _ => false
def ixD (ds : List D) (d : D) : Option Nat := if SeqAt.shaped (.list ds) = true ∧ SeqAt.shaped d = true then ds.findIdx? (fun y => PyData.eqv y d) else none
def seqOf : D → Option (List D)
  | .list ds => some ds
  | .tuple ds => some ds
  | .dict [(.none, .tuple ds)] => some ds
  | _ => none
def lenOf : D → Option Nat
  | .list ds => some ds.length
  | .tuple ds => some ds.length
  | .str x => if x.length ≤ line then some x.length else none
  | .dict ((.bool _, .none) :: kvs) => some kvs.length
  | _ => none
def blt : Blt → List D → Option RV
  | .len, [d] => match lenOf d with
    | some n => some (.v (.int ((n : Nat) : Int)))
    | none => none
  | .abs, [.int i] => some (.v (.int (if i < 0 then -i else i)))
  | .int, [.int i] => some (.v (.int i))
  | .int, [.bool b] => some (.v (.int (if b then 1 else 0)))
  | .sum, [.list ds] => (intsL ds).map fun ns => .v (.int ns.sum)
  | .all, [.list ds] => (bls ds).map fun bs => .v (.bool (bs.all id))
  | .any, [.list ds] => (bls ds).map fun bs => .v (.bool (bs.any id))
  | .max1, [.list ds] => match intsL ds with
    | some (n :: ns) => some (.v (.int (maxI n ns)))
    | _ => none
  | .min1, [.list ds] => match intsL ds with
    | some (n :: ns) => some (.v (.int (minI n ns)))
    | _ => none
  | .max1, [.tuple ds] => match intsL ds with
    | some (n :: ns) => some (.v (.int (maxI n ns)))
    | _ => none
  | .min1, [.tuple ds] => match intsL ds with
    | some (n :: ns) => some (.v (.int (minI n ns)))
    | _ => none
  | .max2, [.int i, .int j] => some (.v (.int (if j > i then j else i)))
  | .min2, [.int i, .int j] => some (.v (.int (if j < i then j else i)))
  | .tuple, [.list ds] => some (.v (.tuple ds))
  | .tuple, [.tuple ds] => some (.v (.tuple ds))
  | .list, [.list ds] => some (.f (.l ds))
  | .list, [.dict [(.none, .list ds)]] => some (.f (.l ds))
  | .list, [.tuple ds] => some (.f (.l ds))
  | .sorted, [.list ds] => match intsL ds with
    | some ns => some (.f (.l ((sortI ns).map PyData.int)))
    | none => if srtB ds = true then some (.f (.l (ds.mergeSort (PySem.W.dataLe false id)))) else none
  | .sorted, [.tuple ds] => match intsL ds with
    | some ns => some (.f (.l ((sortI ns).map PyData.int)))
    | none => if srtB ds = true then some (.f (.l (ds.mergeSort (PySem.W.dataLe false id)))) else none
  | .sorted, [.dict ((.bool false, .none) :: kvs)] => match intsL (kvs.map (·.1)) with
    | some ns => if ns.length ≤ line then some (.f (.l ((sortI ns).map PyData.int))) else none
    | none => none
  | _, _ => none
def isTy : Ty → D → Option Bool
  | .int, .int _ => some true
  | .int, .bool _ => some true
  | .bool, .bool _ => some true
  | .str, .str _ => some true
  | .tuple, .tuple _ => some true
  | .list, .list _ => some true
  | _, .dict ((.bool false, .none) :: _) => some false
  | _, .dict _ => none
  | _, _ => some false
/-- xs[i], i of any sign -/
def atD {α : Type} (xs : List α) (i : Int) : Option α :=
  if 0 ≤ i then xs[i.toNat]? else if 0 ≤ i + xs.length then xs[(i + xs.length).toNat]? else none
def idxD : D → D → Option D
  | .list ds, .int i => atD ds i
  | .tuple ds, .int i => atD ds i
  | _, _ => none
def cutN (n dflt : Nat) : Option Int → Nat
  | none => dflt
  | some v => if v < 0 then (v + n).toNat else min v.toNat n
def cutL (ds : List D) (lo hi : Option Int) : List D :=
  (ds.drop (cutN ds.length 0 lo)).take (cutN ds.length ds.length hi - cutN ds.length 0 lo)
def slcD : D → Option Int → Option Int → Option RV
  | .list ds, lo, hi => some (.f (.l (cutL ds lo hi)))
  | .tuple ds, lo, hi => some (.v (.tuple (cutL ds lo hi)))
  | _, _, _ => none
def revD : D → Option RV
  | .list ds => some (.f (.l ds.reverse))
  | .tuple ds => some (.v (.tuple ds.reverse))
  | _ => none
def asInt : D → Option Int
  | .int i => some i
  | _ => none
def setAt {α : Type} (xs : List α) (i : Int) (v : α) : Option (List α) :=
  if 0 ≤ i then (if i < xs.length then some (xs.set i.toNat v) else none)
  else if 0 ≤ i + xs.length then some (xs.set (i + xs.length).toNat v) else none
def mth : Mth → List D → D → Option (D × List D)
  | .append, xs, d => if xs.length < line then some (.none, xs ++ [d]) else none
  | .extend, xs, .list ds => if xs.length + ds.length ≤ line then some (.none, xs ++ ds) else none
  | .remove, xs, .int k => match intsL xs with
    | some ns => if k ∈ ns then some (.none, (ns.erase k).map PyData.int) else none
    | none => none
  | .pop1, xs, .int i => if 0 ≤ i then (match xs[i.toNat]? with
    | some d => some (d, xs.eraseIdx i.toNat)
    | none => none) else none
  | _, _, _ => none
/-- the list in a slot -/
def ownL : Option SV → Option (List D)
  | some (.ow (.l xs)) => some xs
  | some (.io xs) => some xs
  | _ => none
def putL (ev : Ev) (i : Nat) (xs : List D) : Ev := match ev[i]? with
  | some (.io _) => ev.set i (.io xs)
  | _ => ev.set i (.ow (.l xs))
def ownLL : Option SV → Option (List (List D))
  | some (.ow (.ll xs)) => some xs
  | _ => none

/-! ### evaluation -/
structure Cf where
  G : String → Option Fn
  gl : String → Option D

def R.of {α : Type} (e : Ev) : Option α → R α
  | some a => .ok a e
  | none => .bad
/-- a value bound to slots -/
def setV (ev : Ev) (i : Nat) (v : SV) : Option Ev :=
  match ev[i]? with
  | some (.io _) => none
  | none => none
  | _ => some (ev.set i v)
def setVs : Ev → List Nat → List D → Option Ev
  | ev, [], [] => some ev
  | ev, i :: is, d :: ds => match setV ev i (.sh d) with
    | some ev1 => setVs ev1 is ds
    | none => none
  | _, _, _ => none
def bindTg (tup : Bool) (tg : List Nat) (ev : Ev) (d : D) : Option Ev :=
  match tup with
  | false => setVs ev tg [d]
  | true => match d with
    | .tuple ds => setVs ev tg ds
    | _ => none
/-- a block's own names: none is owned; they are emptied -/
def wipeE : Ev → List Nat → Option Ev
  | ev, [] => some ev
  | ev, i :: is => match wipeE ev is with
    | some ev1 => match ev1[i]? with
      | some .no => some ev1
      | some (.sh _) => some (ev1.set i .no)
      | _ => none
    | none => none
/-- behind the block they are as they were -/
def unwipe (ev0 : Ev) : Ev → List Nat → Ev
  | ev, [] => ev
  | ev, i :: is => (unwipe ev0 ev is).set i (ev0[i]?.getD .no)
/-- a comprehension's turns -/
def lcL (own : List Nat) (tg : List Nat) (tup : Bool) (t : Ev → R Bool) (f : Ev → R RV) : List D → List D → Ev → R (List D)
  | [], acc, ev => match wipeE ev own with
    | some _ => .ok acc ev
    | none => .bad
  | d :: ds, acc, ev => match wipeE ev own with
    | some ev0 => match bindTg tup tg ev0 d with
      | some ev1 => match t ev1 with
        | .ok true ev2 => match f ev2 with
          | .ok r ev3 => match esc ev3 r with
            | some (x, ev4) => lcL own tg tup t f ds (acc ++ [x]) ev4
            | none => .bad
          | _ => .bad
        | .ok false ev2 => lcL own tg tup t f ds acc ev2
        | _ => .bad
      | none => .bad
    | none => .bad
def lcLL (own : List Nat) (tg : List Nat) (tup : Bool) (f : Ev → R RV) : List D → List (List D) → Ev → R (List (List D))
  | [], acc, ev => match wipeE ev own with
    | some _ => .ok acc ev
    | none => .bad
  | d :: ds, acc, ev => match wipeE ev own with
    | some ev0 => match bindTg tup tg ev0 d with
      | some ev1 => match f ev1 with
        | .ok (.f (.l xs)) ev3 => lcLL own tg tup f ds (acc ++ [xs]) ev3
        | _ => .bad
      | none => .bad
    | none => .bad
/-- a dict comprehension's turns -/
def dcL (own tg : List Nat) (tup kt : Bool) (t : Ev → R Bool) (k v : Ev → R RV) : List D → List (D × D) → Ev → R (List (D × D))
  | [], acc, ev => match wipeE ev own with
    | some _ => .ok acc ev
    | none => .bad
  | d :: ds, acc, ev => match wipeE ev own with
    | some ev0 => match bindTg tup tg ev0 d with
      | some ev1 => match t ev1 with
        | .ok true ev2 => match k ev2 with
          | .ok r ev3 => match esc ev3 r with
            | some (x, ev4) => match v ev4 with
              | .ok q ev5 => match esc ev5 q with
                | some (y, ev6) => if keyOkT kt x = true then dcL own tg tup kt t k v ds (putKV acc x y) ev6 else .bad
                | none => .bad
              | _ => .bad
            | none => .bad
          | _ => .bad
        | .ok false ev2 => dcL own tg tup kt t k v ds acc ev2
        | _ => .bad
      | none => .bad
    | none => .bad
/-- a dict's keys, the dict shared -/
def keysE (ev : Ev) (i : Nat) : Option (List D × Ev) := match esc ev (.s i) with
  | some (.dict ((.bool _, .none) :: kvs), e1) => some (kvs.map (·.1), e1)
  | _ => none
/-- nothing is raised -/
def noX {α : Type} : R α → R α
  | .ok a e => .ok a e
  | _ => .bad
/-- a for's turns -/
def forL (tg : List Nat) (tup : Bool) (f : Ev → R Fl) : List D → Ev → R Fl
  | [], ev => .ok .nx ev
  | d :: ds, ev => match bindTg tup tg ev d with
    | some ev1 => match f ev1 with
      | .ok .nx ev2 => forL tg tup f ds ev2
      | .ok .ct ev2 => forL tg tup f ds ev2
      | .ok .br ev2 => .ok .nx ev2
      | .ok (.rt r) ev2 => .ok (.rt r) ev2
      | .ex x ev2 => .ex x ev2
      | .bad => .bad
    | none => .bad
def whlL (t : Ev → R Bool) (f : Ev → R Fl) : Nat → Ev → R Fl
  | 0, _ => .bad
  | n + 1, ev => match t ev with
    | .ok true ev1 => match f ev1 with
      | .ok .nx ev2 => whlL t f n ev2
      | .ok .ct ev2 => whlL t f n ev2
      | .ok .br ev2 => .ok .nx ev2
      | .ok (.rt r) ev2 => .ok (.rt r) ev2
      | .ex x ev2 => .ex x ev2
      | .bad => .bad
    | .ok false ev1 => .ok .nx ev1
    | .ex x ev1 => .ex x ev1
    | .bad => .bad
/-- the items that a walk gives -/
def enumD (ds : List D) : List D := (List.range ds.length).zip ds |>.map fun p => .tuple [.int (p.1 : Nat), p.2]
def zipD (ds es : List D) : List D := (ds.zip es).map fun p => .tuple [p.1, p.2]
def rngD (lo : Int) (n : Nat) : List D := (List.range n).map fun (i : Nat) => .int (lo + i)

def R.bind {α β : Type} (r : R α) (f : α → Ev → R β) : R β :=
  match r with
  | .ok a e => f a e
  | .ex x e => .ex x e
  | .bad => .bad

mutual
def evE (c : Cf) : E → Ev → R RV
  | .var i, ev => match ev[i]? with
    | some (.sh d) => .ok (.v d) ev
    | some (.ow (.ll xs)) => .ok (.v (OV.ll xs).val) (ev.set i (.sh (OV.ll xs).val))
    | some (.ow _) => .ok (.s i) ev
    | some (.io _) => .ok (.s i) ev
    | _ => .bad
  | .non, ev => .ok (.v .none) ev
  | .bl b, ev => .ok (.v (.bool b)) ev
  | .int i, ev => .ok (.v (.int i)) ev
  | .str s, ev => .ok (.v (.str (Str.ofString s))) ev
  | .glo x, ev => match c.gl x with
    | some d => .ok (.v d) ev
    | none => .bad
  | .bin o a b, ev => (evE c a ev).bind fun r e1 => (evE c b e1).bind fun q e2 =>
    match rd e2 (stl r), rd e2 q with
    | some x, some y => R.of e2 (bop o x y)
    | _, _ => .bad
  | .neg a, ev => (evE c a ev).bind fun r e1 => match rd e1 r with
    | some (.int i) => .ok (.v (.int (-i))) e1
    | _ => .bad
  | .cmp o a b, ev => (evE c a ev).bind fun r e1 => (evE c b e1).bind fun q e2 =>
    match rd e2 (stl r), rd e2 q with
    | some x, some y => match cop o x y with
      | some k => .ok (.v (.bool k)) e2
      | none => .bad
    | _, _ => .bad
  | .chn o p a b d, ev => (evE c a ev).bind fun r e1 => (evE c b e1).bind fun q e2 =>
    match rd e2 (stl r), rd e2 (stl q) with
    | some x, some y => match cop o x y with
      | some true => (evE c d e2).bind fun u e3 => match rd e3 (stl q), rd e3 u with
        | some y2, some z => match cop p y2 z with
          | some k => .ok (.v (.bool k)) e3
          | none => .bad
        | _, _ => .bad
      | some false => .ok (.v (.bool false)) e2
      | none => .bad
    | _, _ => .bad
  | .and a b, ev => (evE c a ev).bind fun r e1 => match rd e1 r with
    | some d => match truth d with
      | some true => evE c b e1
      | some false => .ok (stl r) e1
      | none => .bad
    | none => .bad
  | .or a b, ev => (evE c a ev).bind fun r e1 => match rd e1 r with
    | some d => match truth d with
      | some false => evE c b e1
      | some true => .ok (stl r) e1
      | none => .bad
    | none => .bad
  | .not a, ev => (evE c a ev).bind fun r e1 => match rd e1 r with
    | some d => match truth d with
      | some k => .ok (.v (.bool (!k))) e1
      | none => .bad
    | none => .bad
  | .ife t a b, ev => (evT c t ev).bind fun k e1 => match k with
    | true => evE c a e1
    | false => evE c b e1
  | .tup es, ev => (evEs c es ev).bind fun rs e1 => match escs e1 rs with
    | some (ds, e2) => if ds.length ≤ line then .ok (.v (.tuple ds)) e2 else .bad
    | none => .bad
  | .lst es, ev => (evEs c es ev).bind fun rs e1 => match escs e1 rs with
    | some (ds, e2) => if ds.length ≤ line then .ok (.f (.l ds)) e2 else .bad
    | none => .bad
  | .dnew t, ev => .ok (.f (.d t [])) ev
  | .idx a b, ev => (evE c a ev).bind fun r e1 => (evE c b e1).bind fun q e2 =>
    match rd e2 (stl r), rd e2 q with
    | some x, some y => match idxD x y with
      | some d => .ok (.v d) e2
      | none => .bad
    | _, _ => .bad
  | .idx2 i a j, ev => match ownLL ev[i]? with
    | some _ => (evE c a ev).bind fun r e1 => match rd e1 r, ownLL e1[i]?, rd e1 (.s j) with
      | some (.int m), some xss, some (.int n) => match atD xss m with
        | some xs => match atD xs n with
          | some d => .ok (.v d) e1
          | none => .bad
        | none => .bad
      | _, _, _ => .bad
    | none => .bad
  | .slc a lo hi, ev => (evE c a ev).bind fun r e1 => (evO c lo e1).bind fun x e2 => (evO c hi e2).bind fun y e3 =>
    match rd e3 (stl r) with
    | some d => R.of e3 (slcD d x y)
    | none => .bad
  | .dget a b, ev => (evE c a ev).bind fun r e1 => (evE c b e1).bind fun q e2 =>
    match rd e2 (stl r), rd e2 q with
    | some (.dict ((.bool t, .none) :: kvs)), some k => match (if keyOkT t k = true then getKV kvs k else none) with
      | some d => .ok (.v d) e2
      | none => .bad
    | _, _ => .bad
  | .call f es, ev => match c.G f with
    | some F => (evEs c es ev).bind fun rs e1 => match lend e1 F.io rs with
      | some (ds, ls, e2) => match F.run ds with
        | .ok r outs => match giveBack e2 ls outs with
          | some e3 => .ok r e3
          | none => .bad
        | .ex x => if ls.isEmpty then .ex x e2 else .bad
        | .bad => .bad
      | none => .bad
    | none => .bad
  | .blt f es, ev => (evEs c es ev).bind fun rs e1 => match rds e1 rs with
    | some ds => R.of e1 (blt f ds)
    | none => .bad
  | .lrg a, ev => (evE c a ev).bind fun r e1 => match rd e1 r with
    | some (.int n) => if -(2 ^ 62) ≤ n ∧ n ≤ line then .ok (.f (.l (rngD 0 n.toNat))) e1 else .bad
    | _ => .bad
  | .lrg2 a b, ev => (evE c a ev).bind fun r e1 => (evE c b e1).bind fun q e2 => match rd e2 (stl r), rd e2 q with
    | some (.int m), some (.int n) => if -(2 ^ 62) ≤ m ∧ m < 2 ^ 62 ∧ -(2 ^ 62) ≤ n ∧ n < 2 ^ 62 ∧ n - m ≤ line then .ok (.f (.l (rngD m (n - m).toNat))) e2 else .bad
    | _, _ => .bad
  | .trg a, ev => (evE c a ev).bind fun r e1 => match rd e1 r with
    | some (.int n) => if -(2 ^ 62) ≤ n ∧ n ≤ line then .ok (.v (.tuple (rngD 0 n.toNat))) e1 else .bad
    | _ => .bad
  | .rev a, ev => (evE c a ev).bind fun r e1 => match rd e1 r with
    | some d => R.of e1 (revD d)
    | none => .bad
  | .isi a t, ev => (evE c a ev).bind fun r e1 => match rd e1 r with
    | some d => match isTy t d with
      | some k => .ok (.v (.bool k)) e1
      | none => .bad
    | none => .bad
  | .mth1 m i e, ev => match ownL ev[i]? with
    | some _ => (evE c e ev).bind fun r e1 => match esc e1 r with
      | some (d, e2) => match ownL e2[i]? with
        | some xs => match mth m xs d with
          | some (d, ys) => .ok (.v d) (putL e2 i ys)
          | none => .bad
        | none => .bad
      | none => .bad
    | none => .bad
  | .pop0 i, ev => match ownL ev[i]? with
    | some xs => match xs.getLast? with
      | some d => .ok (.v d) (putL ev i xs.dropLast)
      | none => .bad
    | none => .bad
  | .ins i a b, ev => match ownL ev[i]? with
    | some _ => (evE c a ev).bind fun q e1 => (evE c b e1).bind fun r e2 => match rd e2 (stl q) with
      | some (.int j) => match esc e2 r with
        | some (d, e3) => match ownL e3[i]? with
          | some xs => if 0 ≤ j ∧ j < 2 ^ 62 ∧ xs.length < line then .ok (.v .none) (putL e3 i (xs.take j.toNat ++ [d] ++ xs.drop j.toNat)) else .bad
          | none => .bad
        | none => .bad
      | _ => .bad
    | none => .bad
  | .ixof a b, ev => (evE c a ev).bind fun r e1 => match rd e1 r with
    | some (.list _) => (evE c b e1).bind fun q e2 => match rd e2 (stl r), rd e2 q with
      | some (.list ds), some y => match ixD ds y with
        | some j => .ok (.v (.int (j : Nat))) e2
        | none => .bad
      | _, _ => .bad
    | _ => .bad
  | .dlit k v, ev => (evE c k ev).bind fun q e1 => (evE c v e1).bind fun r e2 => match rd e2 (stl q), esc e2 r with
    | some x, some (y, e3) => if keyOk x = true then .ok (.f (.d false [(x, y)])) e3 else .bad
    | _, _ => .bad
  | .dg1 a b, ev => (evE c a ev).bind fun r e1 => match rd e1 r with
    | some (.dict ((.bool _, .none) :: _)) => (evE c b e1).bind fun q e2 => match rd e2 (stl r), rd e2 q with
      | some (.dict ((.bool t, .none) :: kvs)), some k => if keyOkT t k = true then .ok (.v ((getKV kvs k).getD .none)) e2 else .bad
      | _, _ => .bad
    | _ => .bad
  | .dg2 a b d, ev => (evE c a ev).bind fun r e1 => match rd e1 r with
    | some (.dict ((.bool _, .none) :: _)) => (evE c b e1).bind fun q e2 => (evE c d e2).bind fun u e3 => match rd e3 (stl r), rd e3 (stl q), u with
      | some (.dict ((.bool t, .none) :: kvs)), some k, .v x => if keyOkT t k = true then .ok (.v ((getKV kvs k).getD x)) e3 else .bad
      | _, _, _ => .bad
    | _ => .bad
  | .items i, ev => match ev[i]? with
    | some (.ow (.d false kvs)) => .ok (.f (.l (kvs.map fun kv => .tuple [kv.1, kv.2]))) ev
    | _ => .bad
  | .strI a, ev => (evE c a ev).bind fun r e1 => match rd e1 r with
    | some (.int i) => if i.natAbs.log2 < 1920 then .ok (.v (.str (Str.ofString (toString i)))) e1 else .bad
    | _ => .bad
  | .srtk _ a, ev => (evE c a ev).bind fun r e1 => match rd e1 r with
    | some (.list ds) => if ds.all isStp = true then .ok (.f (.l (ds.mergeSort (PySem.W.dataLe false keyL)))) e1 else .bad
    | _ => .bad
  | .lc own tg tup it cd e, ev => (evIt c it ev).bind fun ds e1 => match wipeE e1 own with
    | some _ => match lcL own tg tup (evC c cd) (evE c e) ds [] e1 with
      | .ok xs e2 => .ok (.f (.l xs)) (unwipe e1 e2 own)
      | _ => .bad
    | none => .bad
  | .lco own tg tup i cd e, ev => match ev[i]? with
    | some (.ow (.l ds)) => match wipeE (ev.set i .no) own with
      | some _ => match lcL own tg tup (evC c cd) (evE c e) ds [] (ev.set i .no) with
        | .ok xs e2 => match (unwipe (ev.set i .no) e2 own)[i]? with
          | some .no => .ok (.f (.l xs)) ((unwipe (ev.set i .no) e2 own).set i (.ow (.l ds)))
          | _ => .bad
        | _ => .bad
      | none => .bad
    | _ => .bad
  | .lc2 own tg tup it _ e, ev => (evIt c it ev).bind fun ds e1 => match wipeE e1 own with
    | some _ => match lcLL own tg tup (evE c e) ds [] e1 with
      | .ok xss e2 => .ok (.f (.ll xss)) (unwipe e1 e2 own)
      | _ => .bad
    | none => .bad
  | .dc kt own tg tup it cd k v, ev => (evIt c it ev).bind fun ds e1 => match wipeE e1 own with
    | some _ => match dcL own tg tup kt (evC c cd) (evE c k) (evE c v) ds [] e1 with
      | .ok kvs e2 => .ok (.f (.d kt kvs)) (unwipe e1 e2 own)
      | _ => .bad
    | none => .bad
  | .dck kt own tg tup i cd k v, ev => match keysE ev i with
    | some (ds, e1) => match wipeE e1 own with
      | some _ => match dcL own tg tup kt (evC c cd) (evE c k) (evE c v) ds [] e1 with
        | .ok kvs e2 => .ok (.f (.d kt kvs)) (unwipe e1 e2 own)
        | _ => .bad
      | none => .bad
    | none => .bad
def evT (c : Cf) : T → Ev → R Bool
  | .val e, ev => (evE c e ev).bind fun r e1 => match rd e1 r with
    | some d => R.of e1 (truT d)
    | none => .bad
  | .and a b, ev => (evT c a ev).bind fun k e1 => match k with
    | true => evT c b e1
    | false => .ok false e1
  | .or a b, ev => (evT c a ev).bind fun k e1 => match k with
    | true => .ok true e1
    | false => evT c b e1
  | .not a, ev => (evT c a ev).bind fun k e1 => .ok (!k) e1
def evEs (c : Cf) : Es → Ev → R (List RV)
  | .nil, ev => .ok [] ev
  | .cons e es, ev => (evE c e ev).bind fun r e1 => (evEs c es e1).bind fun rs e2 => .ok (stl r :: rs) e2
def evO (c : Cf) : O → Ev → R (Option Int)
  | .no, ev => .ok none ev
  | .so e, ev => (evE c e ev).bind fun r e1 => match rd e1 r with
    | some (.int i) => .ok (some i) e1
    | _ => .bad
def evC (c : Cf) : C → Ev → R Bool
  | .no, ev => .ok true ev
  | .so t, ev => evT c t ev
def evIt (c : Cf) : It → Ev → R (List D)
  | .seq e, ev => (evE c e ev).bind fun r e1 => match esc e1 r with
    | some (d, e2) => R.of e2 (seqOf d)
    | none => .bad
  | .rng a, ev => (evE c a ev).bind fun r e1 => match rd e1 r with
    | some (.int n) => if -(2 ^ 62) ≤ n ∧ n ≤ line then .ok (rngD 0 n.toNat) e1 else .bad
    | _ => .bad
  | .rng2 a b, ev => (evE c a ev).bind fun r e1 => (evE c b e1).bind fun q e2 => match rd e2 (stl r), rd e2 q with
    | some (.int m), some (.int n) => if -(2 ^ 62) ≤ m ∧ m < 2 ^ 62 ∧ -(2 ^ 62) ≤ n ∧ n < 2 ^ 62 ∧ n - m ≤ line then .ok (rngD m (n - m).toNat) e2 else .bad
    | _, _ => .bad
  | .enum e, ev => (evE c e ev).bind fun r e1 => match esc e1 r with
    | some (d, e2) => match d with
      | .list ds => .ok (enumD ds) e2
      | .tuple ds => .ok (enumD ds) e2
      | _ => .bad
    | none => .bad
  | .zip a b, ev => (evE c a ev).bind fun r e1 => match esc e1 r with
    | some (d, e2) => (evE c b e2).bind fun q e3 => match esc e3 q with
      | some (d2, e4) => match d, d2 with
        | .list xs, .list ys => .ok (zipD xs ys) e4
        | .tuple xs, .tuple ys => .ok (zipD xs ys) e4
        | .list xs, .tuple ys => .ok (zipD xs ys) e4
        | .tuple xs, .list ys => .ok (zipD xs ys) e4
        | _, _ => .bad
      | none => .bad
    | none => .bad
end

/-- a result stored -/
def putR (ev : Ev) (i : Nat) : RV → Option Ev
  | .v d => setV ev i (.sh d)
  | .f o => setV ev i (.ow o)
  | .s j => match esc ev (.s j) with
    | some (d, ev1) => setV ev1 i (.sh d)
    | none => none
/-- a result handed back -/
def retR (ev : Ev) : RV → Option (RV × Ev)
  | .v d => some (.v d, ev)
  | .f o => some (.f o, ev)
  | .s j => match ev[j]? with
    | some (.sh d) => some (.v d, ev)
    | some (.ow o) => some (.f o, ev.set j .no)
    | _ => none

def evHx : Hx → List D → Option RV
  | .fld j _, ds => (ds[j]?).map .v
  | .lst s j _, ds => (ds[j]?).map fun d => .f (.l [.str (Str.ofString s), d])
  | .tup s j _, ds => (ds[j]?).map fun d => .v (.tuple [.str (Str.ofString s), d])
/-- own exception classes: which is below which -/
def subX (x y : String) : Bool := x == y || (y == "ValueError" || (y == "BideError" && x != "Ahead"))
def evHA (x : Exc) : HA → Option D
  | .fld j _ => x.fs[j]?
  | .str s => some (.str (Str.ofString s))
  | .non => some .none
  | .bl b => some (.bool b)
  | .isi c => some (.bool (subX x.c c))
def evHAs (x : Exc) : List HA → Option (List D)
  | [] => some []
  | a :: as => match evHA x a, evHAs x as with
    | some d, some ds => some (d :: ds)
    | _, _ => none
def evHX (x : Exc) : HX → Option RV
  | .one a => (evHA x a).map .v
  | .tup as => (evHAs x as).map fun ds => .v (.tuple ds)
  | .lst as => (evHAs x as).map fun ds => .f (.l ds)
def evHB (x : Exc) : List (List String × HX) → HX → Option RV
  | [], el => evHX x el
  | (cs, h) :: ts, el => if cs.all (subX x.c) = true then evHX x h else evHB x ts el
def evHds (x : Exc) : List Hd → Option (Option RV)
  | [] => some none
  | h :: hs => if subX x.c h.c = true then (evHB x h.ts h.el).map some else evHds x hs
def slotsB (ev : Ev) (hs : List Hd) : Bool := hs.all fun h => match h.sl with
  | some i => decide (i < ev.length)
  | none => true
mutual
def evS (c : Cf) : S → Ev → R Fl
  | .asg i e, ev => (evE c e ev).bind fun r e1 => match putR e1 i r with
    | some e2 => .ok .nx e2
    | none => .bad
  | .unp is e, ev => (evE c e ev).bind fun r e1 => match esc e1 r with
    | some (.tuple ds, e2) => match setVs e2 is ds with
      | some e3 => .ok .nx e3
      | none => .bad
    | _ => .bad
  | .unl is e, ev => (evE c e ev).bind fun r e1 => match esc e1 r with
    | some (.list ds, e2) => match setVs e2 is ds with
      | some e3 => .ok .nx e3
      | none => .bad
    | _ => .bad
  | .sti i a v, ev => (evE c v ev).bind fun r e1 => match esc e1 r with
    | some (d, e2) => match ownL e2[i]? with
      | some _ => (evE c a e2).bind fun q e3 => match rd e3 q, ownL e3[i]? with
        | some (.int j), some xs => match setAt xs j d with
          | some ys => .ok .nx (putL e3 i ys)
          | none => .bad
        | _, _ => .bad
      | none => .bad
    | none => .bad
  | .st2 i a j v, ev => (evE c v ev).bind fun r e1 => match esc e1 r with
    | some (d, e2) => match ownLL e2[i]? with
      | some _ => (evE c a e2).bind fun q e3 => match rd e3 q, ownLL e3[i]?, rd e3 (.s j) with
        | some (.int m), some xss, some (.int n) => match atD xss m with
          | some xs => match setAt xs n d with
            | some ys => match setAt xss m ys with
              | some yss => .ok .nx (e3.set i (.ow (.ll yss)))
              | none => .bad
            | none => .bad
          | none => .bad
        | _, _, _ => .bad
      | none => .bad
    | none => .bad
  | .std i k v, ev => (evE c v ev).bind fun r e1 => match esc e1 r with
    | some (d, e2) => match e2[i]? with
      | some (.ow _) => (evE c k e2).bind fun q e3 => match esc e3 q with
        | some (x, e4) => match e4[i]? with
          | some (.ow (.d t kvs)) => if keyOkT t x = true ∧ kvs.length < line then .ok .nx (e4.set i (.ow (.d t (putKV kvs x d)))) else .bad
          | _ => .bad
        | none => .bad
      | _ => .bad
    | none => .bad
  | .xpr e, ev => (evE c e ev).bind fun _ e1 => .ok .nx e1
  | .ife t a b, ev => (evT c t ev).bind fun k e1 => match k with
    | true => evSs c a e1
    | false => evSs c b e1
  | .forr tg tup it b, ev => (evIt c it ev).bind fun ds e1 => forL tg tup (evSs c b) ds e1
  | .fork tg tup i b, ev => match keysE ev i with
    | some (ds, e1) => noX (forL tg tup (evSs c b) ds e1)
    | none => .bad
  | .whl n t b, ev => whlL (evT c t) (evSs c b) n ev
  | .ret e, ev => (evE c e ev).bind fun r e1 => match retR e1 r with
    | some (q, e2) => .ok (.rt q) e2
    | none => .bad
  | .retN, ev => .ok (.rt (.v .none)) ev
  | .rse x es, ev => (evEs c es ev).bind fun rs e1 => match escs e1 rs with
    | some (ds, e2) => .ex ⟨x, ds⟩ e2
    | none => .bad
  | .trx b x i h, ev => match evSs c b ev with
    | .ex e ev1 => if e.c = x then (match ev1[i]?, evHx h e.fs with
      | some _, some r => .ok (.rt r) ev1
      | _, _ => .bad) else .ex e ev1
    | .ok f ev1 => .ok f ev1
    | .bad => .bad
  | .trm b hs, ev => match evSs c b ev with
    | .ex e ev1 => match slotsB ev1 hs, evHds e hs with
      | true, some (some r) => .ok (.rt r) ev1
      | true, some none => .ex e ev1
      | _, _ => .bad
    | .ok f ev1 => .ok f ev1
    | .bad => .bad
  | .unn is js e, ev => (evE c e ev).bind fun r e1 => match esc e1 r with
    | some (.tuple (.tuple xs :: ds), e2) => match setVs e2 is xs with
      | some e3 => match setVs e3 js ds with
        | some e4 => .ok .nx e4
        | none => .bad
      | none => .bad
    | _ => .bad
  | .sw2 i a b v u, ev => (evE c (.tup (.cons v (.cons u .nil))) ev).bind fun r e1 => match esc e1 r with
    | some (.tuple [x, y], e2) => match ownL e2[i]? with
      | some _ => (evE c a e2).bind fun s e3 => match rd e3 s, ownL e3[i]? with
        | some (.int j), some xs => match setAt xs j x with
          | some ys => (evE c b (putL e3 i ys)).bind fun s2 e4 => match rd e4 s2, ownL e4[i]? with
            | some (.int k), some zs => match setAt zs k y with
              | some ws => .ok .nx (putL e4 i ws)
              | none => .bad
            | _, _ => .bad
          | none => .bad
        | _, _ => .bad
      | none => .bad
    | _ => .bad
  | .pass, ev => .ok .nx ev
  | .brk, ev => .ok .br ev
  | .cont, ev => .ok .ct ev
  | .nev, _ => .bad
def evSs (c : Cf) : Ss → Ev → R Fl
  | .nil, ev => .ok .nx ev
  | .cons a b, ev => (evS c a ev).bind fun f e1 => match f with
    | .nx => evSs c b e1
    | f => .ok f e1
end

/-- the slots at a function's entry -/
def startE : List Bool → List D → Option Ev
  | [], [] => some []
  | false :: bs, d :: ds => (startE bs ds).map (.sh d :: ·)
  | true :: bs, .list xs :: ds => (startE bs ds).map (.io xs :: ·)
  | _, _ => none
def outsE : Ev → List Bool → Option (List (List D))
  | _, [] => some []
  | _ :: ev, false :: bs => outsE ev bs
  | .io xs :: ev, true :: bs => (outsE ev bs).map (xs :: ·)
  | _, _ => none
/-- a function: its slots' number, the lent ones among its parameters, its body -/
def runF (c : Cf) (n : Nat) (io : List Bool) (b : Ss) (ds : List D) : FR :=
  match startE io ds with
  | none => .bad
  | some ev => match evSs c b (ev ++ List.replicate (n - ev.length) .no) with
    | .ok .nx e => match outsE e io with
      | some o => .ok (.v .none) o
      | none => .bad
    | .ok (.rt (.v d)) e => match outsE e io with
      | some o => .ok (.v d) o
      | none => .bad
    | .ok (.rt (.f d)) e => match outsE e io with
      | some o => .ok (.f d) o
      | none => .bad
    | .ex x _ => .ex x
    | _ => .bad
def mkF (c : Cf) (n : Nat) (io : List Bool) (b : Ss) : Fn := ⟨io, runF c n io b⟩
end Bide

set_option autoImplicit false
/-! Defs as core texts. -/
namespace Bide
open PySem
structure Def where
  x : String
  N : List String
  np : Nat
  io : List Bool
  rc : Nat
  body : Ss
def Def.fn (c : Cf) (d : Def) : Fn := mkF c d.N.length d.io d.body
def Cf.put (c : Cf) (x : String) (F : Fn) : Cf := { c with G := fun y => if y = x then some F else c.G y }
/-- calls itself at most so often -/
def Def.again (c : Cf) (d : Def) : Nat → Fn
  | 0 => ⟨d.io, fun _ => .bad⟩
  | n + 1 => d.fn (c.put d.x (d.again c n))
def Def.F (c : Cf) (d : Def) : Fn := match d.rc with
  | 0 => d.fn c
  | n + 1 => d.again c (n + 1)
def Def.add (c : Cf) (d : Def) : Cf := c.put d.x (d.F c)
def Def.cost (d : Def) : Nat := match d.rc with
  | 0 => 1
  | n + 1 => n + 1
end Bide

set_option autoImplicit false
set_option Elab.async false
set_option maxRecDepth 100000
set_option linter.all false
/-! How plain data lies in the abstract heap. -/
namespace Bide
open PySem L2

/-- a key of a dict, as data -/
def keyD : Key → D
  | .inl i => .int i
  | .inr x => .str x
mutual
/-- a value shows data; what it leans on stands in Z -/
inductive Rp (K : PySem.W.Frag) (Z : Hp) : V → D → Prop
  | non : Rp K Z .non .none
  | bl (b : Bool) : Rp K Z (.bl b) (.bool b)
  | int (i : Int) : Rp K Z (.int i) (.int i)
  | str (x : Str) : Rp K Z (.str x) (.str x)
  | lst {a : Addr} {xs : List V} {ds : List D} : Z a = some (.lst xs) → xs.length ≤ sizeLine → Rps K Z xs ds → Rp K Z (.ref a) (.list ds)
  | tup {a : Addr} {xs : List V} {ds : List D} : Z a = some (.tup xs) → xs.length ≤ sizeLine → Rps K Z xs ds → Rp K Z (.ref a) (.tuple ds)
  | ktup {a : Addr} {xs : List V} {ds : List D} : SqT K (fun _ => none) a xs → xs.length ≤ sizeLine → Rps K Z xs ds → Rp K Z (.ref a) (.dict [(.none, .tuple ds)])
  | scr {a : Addr} {xs : List V} {ds : List D} : SqL K Z a xs → xs.length ≤ sizeLine → Rps K Z xs ds → Rp K Z (.ref a) (.dict [(.none, .list ds)])
  | dk {a : Addr} {ks : List (Key × V)} {kvs : List (D × D)} : Rd Z a (.dK ks) → ks.length ≤ sizeLine → RpK K Z ks kvs → Rp K Z (.ref a) (.dict ((.bool false, .none) :: kvs))
  | dt {a : Addr} {ks : List (List Key × V)} {kvs : List (D × D)} : Rd Z a (.dT ks) → ks.length ≤ sizeLine → RpT K Z ks kvs → Rp K Z (.ref a) (.dict ((.bool true, .none) :: kvs))
inductive Rps (K : PySem.W.Frag) (Z : Hp) : List V → List D → Prop
  | nil : Rps K Z [] []
  | cons {v : V} {vs : List V} {d : D} {ds : List D} : Rp K Z v d → Rps K Z vs ds → Rps K Z (v :: vs) (d :: ds)
inductive RpK (K : PySem.W.Frag) (Z : Hp) : List (Key × V) → List (D × D) → Prop
  | nil : RpK K Z [] []
  | cons {k : Key} {v : V} {vs : List (Key × V)} {d : D} {ds : List (D × D)} : Rp K Z v d → RpK K Z vs ds → RpK K Z ((k, v) :: vs) ((keyD k, d) :: ds)
inductive RpT (K : PySem.W.Frag) (Z : Hp) : List (List Key × V) → List (D × D) → Prop
  | nil : RpT K Z [] []
  | cons {k : List Key} {v : V} {vs : List (List Key × V)} {d : D} {ds : List (D × D)} : k.length ≤ sizeLine → Rp K Z v d → RpT K Z vs ds → RpT K Z ((k, v) :: vs) ((.tuple (k.map keyD), d) :: ds)
end

section
variable {K : PySem.W.Frag} {Z Z' H : Hp}
theorem rd_same {a : Addr} {u : HO} (e : Same Z Z') (h : Rd Z a u) : Rd Z' a u := by
  rcases h with h | ⟨o, h⟩
  · exact .inl (e _ _ h)
  · exact .inr ⟨o, e _ _ h⟩
theorem sqL_same {a : Addr} {xs : List V} (e : Same Z Z') (h : SqL K Z a xs) : SqL K Z' a xs := e.seq h
theorem sqT_same {a : Addr} {xs : List V} (e : Same Z Z') (h : SqT K Z a xs) : SqT K Z' a xs := by
  rcases h with (h | ⟨o, h⟩) | h
  · exact .inl (.inl (e _ _ h))
  · exact .inl (.inr ⟨o, e _ _ h⟩)
  · exact .inr h
mutual
theorem Rp.mono (s : Same Z Z') : ∀ {v : V} {d : D}, Rp K Z v d → Rp K Z' v d
  | _, _, .non => .non
  | _, _, .bl b => .bl b
  | _, _, .int i => .int i
  | _, _, .str x => .str x
  | _, _, .lst h l r => .lst (s _ _ h) l (Rps.mono s r)
  | _, _, .scr h l r => .scr (sqL_same s h) l (Rps.mono s r)
  | _, _, .tup h l r => .tup (s _ _ h) l (Rps.mono s r)
  | _, _, .ktup h l r => .ktup h l (Rps.mono s r)
  | _, _, .dk h l r => .dk (rd_same s h) l (RpK.mono s r)
  | _, _, .dt h l r => .dt (rd_same s h) l (RpT.mono s r)
theorem Rps.mono (s : Same Z Z') : ∀ {v : List V} {d : List D}, Rps K Z v d → Rps K Z' v d
  | _, _, .nil => .nil
  | _, _, .cons h r => .cons (Rp.mono s h) (Rps.mono s r)
theorem RpK.mono (s : Same Z Z') : ∀ {v : List (Key × V)} {d : List (D × D)}, RpK K Z v d → RpK K Z' v d
  | _, _, .nil => .nil
  | _, _, .cons h r => .cons (Rp.mono s h) (RpK.mono s r)
theorem RpT.mono (s : Same Z Z') : ∀ {v : List (List Key × V)} {d : List (D × D)}, RpT K Z v d → RpT K Z' v d
  | _, _, .nil => .nil
  | _, _, .cons l h r => .cons l (Rp.mono s h) (RpT.mono s r)
end
theorem Rps.length : ∀ {v : List V} {d : List D}, Rps K Z v d → v.length = d.length
  | _, _, .nil => rfl
  | _, _, .cons _ r => by simp [Rps.length r]
theorem Rps.append : ∀ {v w : List V} {d e : List D}, Rps K Z v d → Rps K Z w e → Rps K Z (v ++ w) (d ++ e)
  | _, _, _, _, .nil, h => h
  | _, _, _, _, .cons h r, q => .cons h (Rps.append r q)
theorem Rps.rev : ∀ {v : List V} {d : List D}, Rps K Z v d → Rps K Z v.reverse d.reverse
  | _, _, .nil => .nil
  | _, _, .cons h r => by rw [List.reverse_cons, List.reverse_cons]; exact r.rev.append (.cons h .nil)
theorem Rps.get : ∀ {v : List V} {d : List D} {i : Nat} {x : V}, Rps K Z v d → v[i]? = some x → ∃ y, d[i]? = some y ∧ Rp K Z x y
  | _, _, _, _, .nil, e => by simp at e
  | _, _, 0, _, .cons h r, e => by simp at e; subst e; exact ⟨_, rfl, h⟩
  | _, _, i + 1, x, .cons h r, e => by
    obtain ⟨y, h1, h2⟩ := Rps.get (i := i) r (by simpa using e)
    exact ⟨y, by simpa using h1, h2⟩
theorem Rps.getD : ∀ {v : List V} {d : List D} {i : Nat} {y : D}, Rps K Z v d → d[i]? = some y → ∃ x, v[i]? = some x ∧ Rp K Z x y
  | _, _, _, _, .nil, e => by simp at e
  | _, _, 0, _, .cons h r, e => by simp at e; subst e; exact ⟨_, rfl, h⟩
  | _, _, i + 1, x, .cons h r, e => by
    obtain ⟨y, h1, h2⟩ := Rps.getD (i := i) r (by simpa using e)
    exact ⟨y, by simpa using h1, h2⟩
theorem Rps.set : ∀ {v : List V} {d : List D} (i : Nat) {x : V} {y : D}, Rps K Z v d → Rp K Z x y → Rps K Z (v.set i x) (d.set i y)
  | _, _, _, _, _, .nil, _ => .nil
  | _, _, 0, _, _, .cons h r, q => .cons q r
  | _, _, i + 1, _, _, .cons h r, q => .cons h (Rps.set i r q)
theorem Rps.drop : ∀ {v : List V} {d : List D} (n : Nat), Rps K Z v d → Rps K Z (v.drop n) (d.drop n)
  | _, _, 0, r => r
  | _, _, _ + 1, .nil => .nil
  | _, _, n + 1, .cons _ r => Rps.drop n r
theorem Rps.take : ∀ {v : List V} {d : List D} (n : Nat), Rps K Z v d → Rps K Z (v.take n) (d.take n)
  | _, _, 0, _ => .nil
  | _, _, _ + 1, .nil => .nil
  | _, _, n + 1, .cons h r => .cons h (Rps.take n r)
theorem Rps.erase : ∀ {v : List V} {d : List D} (n : Nat), Rps K Z v d → Rps K Z (v.eraseIdx n) (d.eraseIdx n)
  | _, _, _, .nil => .nil
  | _, _, 0, .cons _ r => r
  | _, _, n + 1, .cons h r => .cons h (Rps.erase n r)
theorem Rps.dropLast {v : List V} {d : List D} (r : Rps K Z v d) : Rps K Z v.dropLast d.dropLast := by
  rw [List.dropLast_eq_take, List.dropLast_eq_take, r.length]
  exact r.take _
theorem Rps.rep {v : List V} {d : List D} (r : Rps K Z v d) : ∀ n : Nat, Rps K Z (List.replicate n v).flatten (List.replicate n d).flatten
  | 0 => .nil
  | n + 1 => by
    rw [List.replicate_succ, List.replicate_succ, List.flatten_cons, List.flatten_cons]
    exact r.append (Rps.rep r n)
theorem Rps.ints : ∀ {v : List V} {d : List D} {ns : List Int}, Rps K Z v d → Bide.intsL d = some ns → v = ns.map V.int
  | _, _, _, .nil, e => by
    simp [Bide.intsL] at e
    subst e; rfl
  | _, _, _, .cons (d := d) (ds := ds) h r, e => by
    cases d <;> try (simp [Bide.intsL] at e)
    obtain ⟨ms, h1, h2⟩ := e
    subst h2
    cases h
    rw [Rps.ints r h1]; rfl
theorem Rps.bls : ∀ {v : List V} {d : List D} {ns : List Bool}, Rps K Z v d → Bide.bls d = some ns → v = ns.map V.bl
  | _, _, _, .nil, e => by
    simp [Bide.bls] at e
    subst e; rfl
  | _, _, _, .cons (d := d) (ds := ds) h r, e => by
    cases d <;> try (simp [Bide.bls] at e)
    obtain ⟨ms, h1, h2⟩ := e
    subst h2
    cases h
    rw [Rps.bls r h1]; rfl
theorem Rps.ofInts : ∀ (ns : List Int), Rps K Z (ns.map V.int) (ns.map PyData.int)
  | [] => .nil
  | _ :: r => .cons (.int _) (Rps.ofInts r)

/-! ### data without dicts, as the deep comparison wants it -/
mutual
theorem Rp.dp (s : Same Z H) : ∀ {v : V} {d : D}, Rp K Z v d → d.canLay0 = true → Dp K H v d
  | _, _, .non, _ => .non
  | _, _, .bl b, _ => .bl b
  | _, _, .int i, _ => .int i
  | _, _, .str x, _ => .str x
  | _, _, .scr .., c => by simp [PyData.canLay0] at c
  | _, _, .lst h _ r, c => .lst (.inl (.inl (s _ _ h))) (Rps.dp s r (by simpa [PyData.canLay0] using c))
  | _, _, .ktup .., c => by simp [PyData.canLay0] at c
  | _, _, .tup h _ r, c => .tup (.inl (.inl (s _ _ h))) (Rps.dp s r (by simpa [PyData.canLay0] using c))
  | _, _, .dk .., c => by simp [PyData.canLay0] at c
  | _, _, .dt .., c => by simp [PyData.canLay0] at c
theorem Rps.dp (s : Same Z H) : ∀ {v : List V} {d : List D}, Rps K Z v d → PyData.canLayAll0 d = true → DpAll K H v d
  | _, _, .nil, _ => .nil
  | _, _, .cons (d := d) (ds := ds) h r, c => by
    have c' : d.canLay0 = true ∧ PyData.canLayAll0 ds = true := by simpa [PyData.canLayAll0] using c
    exact .cons (Rp.dp s h c'.1) (Rps.dp s r c'.2)
end

/-! ### what one name alone holds -/
/-- an owned object at a: as are its own addresses -/
def OC (K : PySem.W.Frag) (Z H : Hp) (as : List Addr) (a : Addr) : OV → Prop
  | .l ds => as = [a] ∧ ∃ xs, H a = some (.lst xs) ∧ xs.length ≤ sizeLine ∧ Rps K Z xs ds
  | .d false kvs => as = [a] ∧ ∃ ks, H a = some (.dK ks) ∧ ks.length ≤ sizeLine ∧ RpK K Z ks kvs
  | .d true kvs => as = [a] ∧ ∃ ks, H a = some (.dT ks) ∧ ks.length ≤ sizeLine ∧ RpT K Z ks kvs
  | .ll dss => ∃ bs, as = a :: bs ∧ H a = some (.lst (bs.map V.ref)) ∧ bs.length ≤ sizeLine ∧ bs.length = dss.length ∧
      ∀ (i : Nat) b ds, bs[i]? = some b → dss[i]? = some ds → ∃ xs, H b = some (.lst xs) ∧ xs.length ≤ sizeLine ∧ Rps K Z xs ds
theorem OC.mem {as : List Addr} {a : Addr} {o : OV} (h : OC K Z H as a o) : a ∈ as := by
  cases o with
  | l ds => rw [h.1]; exact List.mem_singleton.mpr rfl
  | d t kvs => cases t <;> (rw [h.1]; exact List.mem_singleton.mpr rfl)
  | ll dss => obtain ⟨bs, e, _⟩ := h; rw [e]; exact List.mem_cons_self
theorem OC.alive {as : List Addr} {a : Addr} {o : OV} (h : OC K Z H as a o) : ∀ b ∈ as, H b ≠ none := by
  intro b hb
  cases o with
  | l ds =>
    obtain ⟨e, xs, h1, _⟩ := h
    rw [e] at hb
    cases List.mem_singleton.mp hb
    rw [h1]; simp
  | d t kvs =>
    cases t
    · obtain ⟨e, xs, h1, _⟩ := h
      rw [e] at hb
      cases List.mem_singleton.mp hb
      rw [h1]; simp
    · obtain ⟨e, xs, h1, _⟩ := h
      rw [e] at hb
      cases List.mem_singleton.mp hb
      rw [h1]; simp
  | ll dss =>
    obtain ⟨bs, e, h1, _, hl, hr⟩ := h
    rw [e] at hb
    rcases List.mem_cons.mp hb with rfl | hb
    · rw [h1]; simp
    · obtain ⟨i, hi⟩ := List.mem_iff_getElem?.mp hb
      have hlt : i < dss.length := by
        rw [← hl]
        exact (List.getElem?_eq_some_iff.mp hi).1
      obtain ⟨xs, h2, _⟩ := hr i b dss[i] hi (List.getElem?_eq_getElem hlt)
      rw [h2]; simp
theorem OC.lstLike {as : List Addr} {a : Addr} {o : OV} (h : OC K Z H as a o) : ∀ b ∈ as, ∀ xs, H b ≠ some (.tup xs) := by
  intro b hb xs hx
  cases o with
  | l ds =>
    obtain ⟨e, ys, h1, _⟩ := h
    rw [e] at hb
    cases List.mem_singleton.mp hb
    rw [h1] at hx; cases hx
  | d t kvs =>
    cases t
    · obtain ⟨e, ys, h1, _⟩ := h
      rw [e] at hb
      cases List.mem_singleton.mp hb
      rw [h1] at hx; cases hx
    · obtain ⟨e, ys, h1, _⟩ := h
      rw [e] at hb
      cases List.mem_singleton.mp hb
      rw [h1] at hx; cases hx
  | ll dss =>
    obtain ⟨bs, e, h1, _, hl, hr⟩ := h
    rw [e] at hb
    rcases List.mem_cons.mp hb with rfl | hb
    · rw [h1] at hx; cases hx
    · obtain ⟨i, hi⟩ := List.mem_iff_getElem?.mp hb
      have hlt : i < dss.length := by
        rw [← hl]
        exact (List.getElem?_eq_some_iff.mp hi).1
      obtain ⟨ys, h2, _⟩ := hr i b dss[i] hi (List.getElem?_eq_getElem hlt)
      rw [h2] at hx; cases hx
theorem OC.kd {as : List Addr} {a : Addr} {o : OV} (h : OC K Z H as a o) : ∀ b ∈ as, (∃ xs, H b = some (.lst xs)) ∨ (∃ ks, H b = some (.dK ks)) ∨ (∃ ks, H b = some (.dT ks)) := by
  intro b hb
  cases o with
  | l ds =>
    obtain ⟨e, ys, h1, _⟩ := h
    rw [e] at hb
    cases List.mem_singleton.mp hb
    exact .inl ⟨ys, h1⟩
  | d t kvs =>
    cases t
    · obtain ⟨e, ys, h1, _⟩ := h
      rw [e] at hb
      cases List.mem_singleton.mp hb
      exact .inr (.inl ⟨ys, h1⟩)
    · obtain ⟨e, ys, h1, _⟩ := h
      rw [e] at hb
      cases List.mem_singleton.mp hb
      exact .inr (.inr ⟨ys, h1⟩)
  | ll dss =>
    obtain ⟨bs, e, h1, _, hl, hr⟩ := h
    rw [e] at hb
    rcases List.mem_cons.mp hb with rfl | hb
    · exact .inl ⟨_, h1⟩
    · obtain ⟨i, hi⟩ := List.mem_iff_getElem?.mp hb
      have hlt : i < dss.length := by
        rw [← hl]
        exact (List.getElem?_eq_some_iff.mp hi).1
      obtain ⟨ys, h2, _⟩ := hr i b dss[i] hi (List.getElem?_eq_getElem hlt)
      exact .inl ⟨ys, h2⟩
theorem OC.noTbl {as : List Addr} {a : Addr} {o : OV} (h : OC K Z H as a o) : ∀ b ∈ as, ∀ ps, H b ≠ some (.tbl ps) := by
  intro b hb ps e
  rcases h.kd b hb with ⟨_, q⟩ | ⟨_, q⟩ | ⟨_, q⟩ <;> (rw [e] at q; cases q)
theorem OC.noExt {as : List Addr} {a : Addr} {o : OV} (h : OC K Z H as a o) : ∀ b ∈ as, ∀ φ, H b ≠ some (.ext φ) := by
  intro b hb φ e
  rcases h.kd b hb with ⟨_, q⟩ | ⟨_, q⟩ | ⟨_, q⟩ <;> (rw [e] at q; cases q)
theorem OC.mono {Z' H' : Hp} {as : List Addr} {a : Addr} {o : OV} (h : OC K Z H as a o) (s : Same Z Z') (k : ∀ b ∈ as, ∀ u, H b = some u → H' b = some u) : OC K Z' H' as a o := by
  cases o with
  | l ds =>
    obtain ⟨rfl, xs, h1, h2, h3⟩ := h
    exact ⟨rfl, xs, k _ (by simp) _ h1, h2, h3.mono s⟩
  | d t kvs =>
    cases t
    · obtain ⟨rfl, xs, h1, h2, h3⟩ := h
      exact ⟨rfl, xs, k _ (by simp) _ h1, h2, h3.mono s⟩
    · obtain ⟨rfl, xs, h1, h2, h3⟩ := h
      exact ⟨rfl, xs, k _ (by simp) _ h1, h2, h3.mono s⟩
  | ll dss =>
    obtain ⟨bs, rfl, h1, h2, hl, hr⟩ := h
    refine ⟨bs, rfl, k _ (by simp) _ h1, h2, hl, fun i b ds e1 e2 => ?_⟩
    obtain ⟨xs, q1, q2, q3⟩ := hr i b ds e1 e2
    exact ⟨xs, k b (by simp [List.mem_of_getElem? e1]) _ q1, q2, q3.mono s⟩

/-- Z with what stands in H at these addresses -/
def addZ (Z H : Hp) (as : List Addr) : Hp := fun p => if p ∈ as then H p else Z p
theorem addZ_in {as : List Addr} {p : Addr} (h : p ∈ as) : addZ Z H as p = H p := if_pos h
theorem addZ_out {as : List Addr} {p : Addr} (h : p ∉ as) : addZ Z H as p = Z p := if_neg h
theorem addZ_same {as : List Addr} (n : ∀ b ∈ as, Z b = none) : Same Z (addZ Z H as) := fun b o e => by
  have hb : b ∉ as := fun hb => by rw [n b hb] at e; cases e
  rw [addZ_out hb]; exact e
theorem OC.rp {as : List Addr} {a : Addr} {o : OV} (h : OC K Z H as a o) (n : ∀ b ∈ as, Z b = none) : Rp K (addZ Z H as) (.ref a) o.val := by
  have s := addZ_same (H := H) n
  cases o with
  | l ds =>
    obtain ⟨rfl, xs, h1, h2, h3⟩ := h
    exact .lst (by rw [addZ_in (by simp)]; exact h1) h2 (h3.mono s)
  | d t kvs =>
    cases t
    · obtain ⟨rfl, xs, h1, h2, h3⟩ := h
      exact .dk (.inl (by rw [addZ_in (by simp)]; exact h1)) h2 (h3.mono s)
    · obtain ⟨rfl, xs, h1, h2, h3⟩ := h
      exact .dt (.inl (by rw [addZ_in (by simp)]; exact h1)) h2 (h3.mono s)
  | ll dss =>
    obtain ⟨bs, rfl, h1, h2, hl, hr⟩ := h
    refine .lst (by rw [addZ_in (by simp)]; exact h1) (by simpa using h2) ?_
    have key : ∀ (bs' : List Addr) (dss' : List (List D)), bs'.length = dss'.length → (∀ (i : Nat) b ds, bs'[i]? = some b → dss'[i]? = some ds → b ∈ a :: bs ∧ ∃ xs, H b = some (.lst xs) ∧ xs.length ≤ sizeLine ∧ Rps K Z xs ds) →
        Rps K (addZ Z H (a :: bs)) (bs'.map V.ref) (dss'.map PyData.list) := by
      intro bs'
      induction bs' with
      | nil =>
        intro dss' hl' _
        cases dss' with
        | nil => exact .nil
        | cons _ _ => simp at hl'
      | cons b bs' ih =>
        intro dss' hl' hh
        cases dss' with
        | nil => simp at hl'
        | cons ds dss' =>
          obtain ⟨hm, xs, q1, q2, q3⟩ := hh 0 b ds rfl rfl
          refine .cons (.lst (by rw [addZ_in hm]; exact q1) q2 (q3.mono s)) (ih dss' (by simpa using hl') fun i b' ds' e1 e2 => hh (i + 1) b' ds' (by simpa using e1) (by simpa using e2))
    exact key bs dss hl fun i b ds e1 e2 => ⟨by simp [List.mem_of_getElem? e1], hr i b ds e1 e2⟩
end

/-! ### the state of a body -/
/-- a function's entry: the heap, what is shared there, the lent slots with their addresses; what is kept meanwhile -/
structure En where
  H : Hp
  Z : Hp
  P : List (Nat × Addr)
  F : Hp
  ca : String → Option Addr
/-- an address that may be owned -/
def En.own (c : En) (a : Addr) : Prop := (∃ i, (i, a) ∈ c.P) ∨ c.H a = none
def SlR (K : PySem.W.Frag) (Z H : Hp) (x : Option (Option V)) (as : List Addr) : SV → Prop
  | .no => as = []
  | .sh d => as = [] ∧ ∃ v, x = some (some v) ∧ Rp K Z v d
  | .ow o => ∃ a, x = some (some (.ref a)) ∧ OC K Z H as a o
  | .io ds => ∃ a, x = some (some (.ref a)) ∧ OC K Z H as a (.l ds)
/-- no table of code objects -/
def NoT (Z : Hp) : Prop := ∀ p ps, Z p ≠ some (.tbl ps)
/-- the tables that are known: each holds nothing but lambdas of one name -/
def TbOk (ca : String → Option Addr) (H : Hp) : Prop := ∀ x P, ca ("<lambda> " ++ x) = some P → LamX.TabS H P (Str.ofString x)
/-- a tuple is never owned -/
def HoTup (o : HO) : Prop := ∃ xs, o = .tup xs
structure RS (K : PySem.W.Frag) (c : En) (σ : L2.St) (H Z : Hp) (ev : Ev) (A : Nat → List Addr) : Prop where
  len : σ.length = ev.length
  sub : Same Z H
  z0 : Same c.Z Z
  zf : ∀ p o, Z p = some o → c.Z p = some o ∨ c.H p = none ∨ HoTup o
  fr : ∀ p o, c.H p = some o → (∀ i, (i, p) ∉ c.P) → (∀ ps, o ≠ .tbl ps) → H p = some o
  tk : ∀ p ps, c.H p = some (.tbl ps) → ∃ qs, H p = some (.tbl qs)
  nz : NoT Z
  tb : TbOk c.ca H
  sl : ∀ (i : Nat) sv, ev[i]? = some sv → SlR K Z H σ[i]? (A i) sv
  out : ∀ (i : Nat), ev.length ≤ i → A i = []
  zo : ∀ i, ∀ a ∈ A i, Z a = none
  ao : ∀ i, ∀ a ∈ A i, c.own a
  dis : ∀ i j a, a ∈ A i → a ∈ A j → i = j
  nod : ∀ i, (A i).Nodup
  io : ∀ (i : Nat) a, (i, a) ∈ c.P → A i = [a] ∧ ∃ ds, ev[i]? = some (.io ds)
  oi : ∀ (i : Nat) ds, ev[i]? = some (.io ds) → ∃ a, (i, a) ∈ c.P
  pf : ∀ p o, c.F p = some o → H p = some o ∧ Z p = none ∧ ∀ i, p ∉ A i
  ft : ∀ p o, c.F p = some o → ¬ HoTup o
  fz : NoT c.F
/-- what a result shows -/
def RR (K : PySem.W.Frag) (c : En) (σ : L2.St) (H Z : Hp) (ev : Ev) (A : Nat → List Addr) (x : V) : RV → Prop
  | .v d => Rp K Z x d
  | .s i => σ[i]? = some (some x)
  | .f o => ∃ a as, x = .ref a ∧ OC K Z H as a o ∧ as.Nodup ∧ ∀ b ∈ as, Z b = none ∧ c.H b = none ∧ c.F b = none ∧ ∀ i, b ∉ A i
end Bide

set_option autoImplicit false
set_option Elab.async false
set_option maxRecDepth 100000
set_option linter.all false
/-! How the state of a body changes. -/
namespace Bide
open PySem L2
variable {K : PySem.W.Frag} {c : En} {σ σ' : L2.St} {H H' Z Z' : Hp} {ev : Ev} {A : Nat → List Addr}

def setA (A : Nat → List Addr) (i : Nat) (as : List Addr) : Nat → List Addr := fun j => if j = i then as else A j
theorem setA_same {i : Nat} {as : List Addr} : setA A i as i = as := if_pos rfl
theorem setA_ne {i j : Nat} {as : List Addr} (h : j ≠ i) : setA A i as j = A j := if_neg h
def SV.isIo : SV → Prop
  | .io _ => True
  | _ => False

theorem RS.alive (R : RS K c σ H Z ev A) {i : Nat} {a : Addr} (h : a ∈ A i) : H a ≠ none := by
  by_cases hi : i < ev.length
  · have q := R.sl i ev[i] (List.getElem?_eq_getElem hi)
    revert q
    cases ev[i] with
    | no => intro q; rw [show A i = [] from q] at h; cases h
    | sh d => intro q; rw [q.1] at h; cases h
    | ow o => rintro ⟨b, _, q⟩; exact q.alive a h
    | io ds => rintro ⟨b, _, q⟩; exact q.alive a h
  · rw [R.out i (by omega)] at h; cases h
theorem RS.noTup (R : RS K c σ H Z ev A) {i : Nat} {a : Addr} (h : a ∈ A i) : ∀ o, HoTup o → H a ≠ some o := by
  rintro o ⟨xs, rfl⟩
  by_cases hi : i < ev.length
  · have q := R.sl i ev[i] (List.getElem?_eq_getElem hi)
    revert q
    cases ev[i] with
    | no => intro q; rw [show A i = [] from q] at h; cases h
    | sh d => intro q; rw [q.1] at h; cases h
    | ow o => rintro ⟨b, _, q⟩; exact q.lstLike a h xs
    | io ds => rintro ⟨b, _, q⟩; exact q.lstLike a h xs
  · rw [R.out i (by omega)] at h; cases h
/-- an owned object is no code object -/
theorem RS.noCode (R : RS K c σ H Z ev A) {i : Nat} {a : Addr} (h : a ∈ A i) : ∀ q, H a ≠ some (LamX.CodeO a q) := by
  intro z
  by_cases hi : i < ev.length
  · have q := R.sl i ev[i] (List.getElem?_eq_getElem hi)
    revert q
    cases ev[i] with
    | no => intro q; rw [show A i = [] from q] at h; cases h
    | sh d => intro q; rw [q.1] at h; cases h
    | ow o => rintro ⟨b, _, q⟩; exact q.noExt a h _
    | io ds => rintro ⟨b, _, q⟩; exact q.noExt a h _
  · rw [R.out i (by omega)] at h; cases h
/-- what a lent slot is -/
theorem RS.noP (R : RS K c σ H Z ev A) {i : Nat} {sv : SV} (e : ev[i]? = some sv) (n : ¬ sv.isIo) (a : Addr) : (i, a) ∉ c.P := fun h => by
  obtain ⟨_, ds, q⟩ := R.io i a h
  rw [e] at q
  cases q
  exact n trivial
/-- an owned address of a slot that is not lent is younger than the entry -/
theorem RS.young (R : RS K c σ H Z ev A) {i : Nat} {sv : SV} (e : ev[i]? = some sv) (n : ¬ sv.isIo) {a : Addr} (h : a ∈ A i) : c.H a = none := by
  rcases R.ao i a h with ⟨j, hj⟩ | q
  · have z := (R.io j a hj).1
    have : i = j := R.dis i j a h (by rw [z]; simp)
    subst this
    exact absurd hj (R.noP e n a)
  · exact q
theorem RS.dead (R : RS K c σ H Z ev A) {p : Addr} (h : H p = none) : c.H p = none := by
  cases q : c.H p with
  | none => rfl
  | some o =>
    by_cases hp : ∃ i, (i, p) ∈ c.P
    · obtain ⟨i, hi⟩ := hp
      have z := (R.io i p hi).1
      exact absurd h (R.alive (i := i) (by rw [z]; simp))
    · by_cases ht : ∃ ps, o = .tbl ps
      · obtain ⟨ps, rfl⟩ := ht
        obtain ⟨qs, e⟩ := R.tk p ps q
        rw [h] at e; cases e
      · have := R.fr p o q (fun i hi => hp ⟨i, hi⟩) fun ps e => ht ⟨ps, e⟩
        rw [h] at this; cases this
/-- an owned object is no table -/
theorem RS.noTbl (R : RS K c σ H Z ev A) {i : Nat} {a : Addr} (h : a ∈ A i) : ∀ ps, H a ≠ some (.tbl ps) := by
  intro ps
  by_cases hi : i < ev.length
  · have q := R.sl i ev[i] (List.getElem?_eq_getElem hi)
    revert q
    cases ev[i] with
    | no => intro q; rw [show A i = [] from q] at h; cases h
    | sh d => intro q; rw [q.1] at h; cases h
    | ow o => rintro ⟨b, _, q⟩; exact q.noTbl a h ps
    | io ds => rintro ⟨b, _, q⟩; exact q.noTbl a h ps
  · rw [R.out i (by omega)] at h; cases h
theorem TbOk.ext {ca : String → Option Addr} (t : TbOk ca H) (k : ∀ b o, H b = some o → H' b = some o) : TbOk ca H' := fun x P e => (t x P e).ext k
/-- what is no owned object stands: the tables stand -/
theorem RS.tbKeep (R : RS K c σ H Z ev A) {i : Nat} (k : ∀ b, b ∉ A i → H' b = H b) : TbOk c.ca H' := fun x P e => by
  obtain ⟨ps, h1, h2, h3⟩ := R.tb x P e
  refine ⟨ps, by rw [k P fun h => R.noTbl h ps h1]; exact h1, h2, fun pos cv q => ?_⟩
  obtain ⟨c', e1, e2⟩ := h3 pos cv q
  exact ⟨c', e1, by rw [k c' fun h => R.noCode h _ e2]; exact e2⟩
theorem SlR.mono {x : Option (Option V)} {as : List Addr} {sv : SV} (q : SlR K Z H x as sv) (s : Same Z Z') (k : ∀ b ∈ as, ∀ u, H b = some u → H' b = some u) : SlR K Z' H' x as sv := by
  cases sv with
  | no => exact q
  | sh d => obtain ⟨q0, v, q1, q2⟩ := q; exact ⟨q0, v, q1, q2.mono s⟩
  | ow o => obtain ⟨a, q1, q2⟩ := q; exact ⟨a, q1, q2.mono s k⟩
  | io ds => obtain ⟨a, q1, q2⟩ := q; exact ⟨a, q1, q2.mono s k⟩
/-- the heap grows, something is shared -/
theorem RS.extN (R : RS K c σ H Z ev A) (s : Same Z Z') (sub : Same Z' H') (zf : ∀ p o, Z' p = some o → Z p = some o ∨ H p = none ∨ HoTup o) (nt : ∀ p ps, Z' p = some (.tbl ps) → Z p = some (.tbl ps)) (k : LamX.ExtN H H') (tk : ∀ p ps, H p = some (.tbl ps) → ∃ qs, H' p = some (.tbl qs)) (tb : TbOk c.ca H') : RS K c σ H' Z' ev A where
  len := R.len
  sub := sub
  z0 := R.z0.trans s
  zf := fun p o e => by
    rcases zf p o e with q | q | q
    · exact R.zf p o q
    · exact .inr (.inl (R.dead q))
    · exact .inr (.inr q)
  fr := fun p o e n t => k p o (R.fr p o e n t) t
  tk := fun p ps e => by
    obtain ⟨qs, q⟩ := R.tk p ps e
    exact tk p qs q
  nz := fun p ps e => R.nz p ps (nt p ps e)
  tb := tb
  sl := fun i sv e => (R.sl i sv e).mono s fun b hb u q => k b u q fun ps e' => by subst e'; exact R.noTbl hb ps q
  out := R.out
  zo := fun i a h => by
    cases q : Z' a with
    | none => rfl
    | some o =>
      rcases zf a o q with z | z | z
      · rw [R.zo i a h] at z; cases z
      · exact absurd z (R.alive h)
      · cases y : H a with
        | none => exact absurd y (R.alive h)
        | some u =>
          have e := k a u y fun ps e' => by subst e'; exact R.noTbl h ps y
          rw [sub a o q] at e
          cases e
          exact absurd y (R.noTup h o z)
  ao := R.ao
  dis := R.dis
  nod := R.nod
  io := R.io
  oi := R.oi
  pf := fun p o e => by
    obtain ⟨h1, h2, h3⟩ := R.pf p o e
    have nt : ∀ ps, o ≠ .tbl ps := fun ps e' => by subst e'; exact R.fz p ps e
    refine ⟨k p o h1 nt, ?_, h3⟩
    cases q : Z' p with
    | none => rfl
    | some u =>
      rcases zf p u q with z | z | z
      · rw [h2] at z; cases z
      · rw [h1] at z; cases z
      · have y := k p o h1 nt
        rw [sub p u q] at y
        cases y
        exact absurd z (R.ft p o e)
  ft := R.ft
  fz := R.fz
theorem RS.ext (R : RS K c σ H Z ev A) (s : Same Z Z') (sub : Same Z' H') (zf : ∀ p o, Z' p = some o → Z p = some o ∨ H p = none ∨ HoTup o) (nt : ∀ p ps, Z' p = some (.tbl ps) → Z p = some (.tbl ps)) (k : Same H H') : RS K c σ H' Z' ev A :=
  R.extN s sub zf nt (.of k) (fun p ps e => ⟨ps, k _ _ e⟩) (R.tb.ext k)
/-- one slot anew -/
theorem RS.slotNew (R : RS K c σ H Z ev A) {i : Nat} {sv : SV} {as : List Addr} (hi : i < ev.length) (hl : σ'.length = σ.length) (ho : ∀ j, j ≠ i → σ'[j]? = σ[j]?) (s : Same Z Z') (sub : Same Z' H')
    (zf : ∀ p o, Z' p = some o → Z p = some o ∨ c.H p = none ∨ HoTup o) (kp : ∀ j, j ≠ i → ∀ b ∈ A j, ∀ u, H b = some u → H' b = some u)
    (fr : ∀ p o, c.H p ≠ none → (∀ i, (i, p) ∉ c.P) → H p = some o → H' p = some o) (nt : ∀ p ps, Z' p = some (.tbl ps) → Z p = some (.tbl ps)) (tb : TbOk c.ca H') (zo : ∀ j, j ≠ i → ∀ b ∈ A j, Z' b = none)
    (new : SlR K Z' H' σ'[i]? as sv) (azo : ∀ b ∈ as, Z' b = none) (ao : ∀ b ∈ as, c.own b) (dis : ∀ b ∈ as, ∀ j, j ≠ i → b ∉ A j) (nod : as.Nodup)
    (io : ((∀ a, (i, a) ∉ c.P) ∧ ¬ sv.isIo) ∨ (as = A i ∧ sv.isIo ∧ ∃ a, (i, a) ∈ c.P)) (pf : ∀ p o, c.F p = some o → H' p = some o ∧ Z' p = none ∧ p ∉ as) : RS K c σ' H' Z' (ev.set i sv) (setA A i as) where
  len := by rw [hl, List.length_set]; exact R.len
  sub := sub
  z0 := R.z0.trans s
  zf := fun p o e => by
    rcases zf p o e with q | q
    · exact R.zf p o q
    · exact .inr q
  fr := fun p o e n t => fr p o (by rw [e]; simp) n (R.fr p o e n t)
  tk := fun p ps e => by
    obtain ⟨qs, q⟩ := R.tk p ps e
    exact ⟨qs, fr p _ (by rw [e]; simp) (fun j hj => R.noTbl (i := j) (by rw [(R.io j p hj).1]; simp) qs q) q⟩
  nz := fun p ps e => R.nz p ps (nt p ps e)
  tb := tb
  sl := fun j sw e => by
    by_cases h : j = i
    · subst h
      rw [List.getElem?_set_self hi] at e
      cases e
      rw [setA_same]; exact new
    · rw [List.getElem?_set_ne (Ne.symm h)] at e
      rw [setA_ne h, ho j h]
      exact (R.sl j sw e).mono s fun b hb u q => kp j h b hb u q
  out := fun j hj => by
    rw [List.length_set] at hj
    rw [setA_ne (by omega)]
    exact R.out j hj
  zo := fun j a h => by
    by_cases e : j = i
    · subst e; rw [setA_same] at h; exact azo a h
    · rw [setA_ne e] at h; exact zo j e a h
  ao := fun j a h => by
    by_cases e : j = i
    · subst e; rw [setA_same] at h; exact ao a h
    · rw [setA_ne e] at h; exact R.ao j a h
  dis := fun j k a h1 h2 => by
    by_cases e : j = i
    · subst e
      rw [setA_same] at h1
      by_cases e' : k = j
      · exact e'.symm
      · rw [setA_ne e'] at h2; exact absurd h2 (dis a h1 k e')
    · rw [setA_ne e] at h1
      by_cases e' : k = i
      · subst e'; rw [setA_same] at h2; exact absurd h1 (dis a h2 j e)
      · rw [setA_ne e'] at h2; exact R.dis j k a h1 h2
  nod := fun j => by
    by_cases e : j = i
    · subst e; rw [setA_same]; exact nod
    · rw [setA_ne e]; exact R.nod j
  io := fun j a h => by
    by_cases e : j = i
    · subst e
      rcases io with ⟨q, _⟩ | ⟨q1, q2, q3⟩
      · exact absurd h (q a)
      · rw [setA_same, q1]
        refine ⟨(R.io j a h).1, ?_⟩
        rw [List.getElem?_set_self hi]
        cases sv with
        | io ds => exact ⟨ds, rfl⟩
        | _ => exact q2.elim
    · rw [setA_ne e, List.getElem?_set_ne (Ne.symm e)]
      exact R.io j a h
  oi := fun j ds h => by
    by_cases e : j = i
    · subst e
      rw [List.getElem?_set_self hi] at h
      cases h
      rcases io with ⟨_, q⟩ | ⟨_, _, q⟩
      · exact (q trivial).elim
      · exact q
    · rw [List.getElem?_set_ne (Ne.symm e)] at h
      exact R.oi j ds h
  pf := fun p o e => by
    obtain ⟨h1, h2, h3⟩ := pf p o e
    refine ⟨h1, h2, fun j => ?_⟩
    by_cases z : j = i
    · subst z; rw [setA_same]; exact h3
    · rw [setA_ne z]; exact (R.pf p o e).2.2 j
  ft := R.ft
  fz := R.fz

/-- a new object that nobody holds is shared -/
theorem RS.settle (R : RS K c σ H Z ev A) {x : V} {o : OV} (q : RR K c σ H Z ev A x (.f o)) : ∃ Z', Same Z Z' ∧ RS K c σ H Z' ev A ∧ Rp K Z' x o.val := by
  obtain ⟨a, as, rfl, h1, nd, h2⟩ := q
  have s : Same Z (addZ Z H as) := addZ_same fun b hb => (h2 b hb).1
  refine ⟨addZ Z H as, s, ?_, h1.rp fun b hb => (h2 b hb).1⟩
  exact {
    len := R.len
    sub := fun p o e => by
      by_cases h : p ∈ as
      · rw [addZ_in h] at e; exact e
      · rw [addZ_out h] at e; exact R.sub p o e
    z0 := R.z0.trans s
    zf := fun p o e => by
      by_cases h : p ∈ as
      · exact .inr (.inl (h2 p h).2.1)
      · rw [addZ_out h] at e; exact R.zf p o e
    fr := R.fr
    tk := R.tk
    nz := fun p ps e => by
      by_cases h : p ∈ as
      · rw [addZ_in h] at e; exact h1.noTbl p h ps e
      · rw [addZ_out h] at e; exact R.nz p ps e
    tb := R.tb
    fz := R.fz
    sl := fun i sv e => (R.sl i sv e).mono s fun _ _ _ q => q
    out := R.out
    zo := fun i b h => by
      rw [addZ_out fun hb => (h2 b hb).2.2.2 i h]
      exact R.zo i b h
    ao := R.ao
    dis := R.dis
    nod := R.nod
    io := R.io
    oi := R.oi
    pf := fun p o e => by
      obtain ⟨q1, q2, q3⟩ := R.pf p o e
      refine ⟨q1, ?_, q3⟩
      rw [addZ_out fun hb => by rw [(h2 p hb).2.2.1] at e; cases e]
      exact q2
    ft := R.ft }
/-- an owned object is shared -/
theorem RS.share (R : RS K c σ H Z ev A) {i : Nat} {o : OV} (e : ev[i]? = some (.ow o)) :
    ∃ Z' x, σ[i]? = some (some x) ∧ Same Z Z' ∧ RS K c σ H Z' (ev.set i (.sh o.val)) (setA A i []) ∧ Rp K Z' x o.val := by
  obtain ⟨a, ha, h1⟩ := R.sl i _ e
  have hi : i < ev.length := (List.getElem?_eq_some_iff.mp e).1
  have z := R.zo i
  have s : Same Z (addZ Z H (A i)) := addZ_same z
  have rp := h1.rp z
  refine ⟨addZ Z H (A i), .ref a, ha, s, ?_, rp⟩
  refine R.slotNew hi rfl (fun _ _ => rfl) s (fun p o e => ?_) (fun p o e' => ?_) (fun _ _ _ _ _ q => q) (fun _ _ _ _ q => q) (fun p ps e' => ?_) R.tb (fun j hj b hb => ?_) ⟨rfl, _, ha, rp⟩ (fun _ h => by cases h) (fun _ h => by cases h) (fun _ h => by cases h) List.nodup_nil
    (.inl ⟨R.noP e id, id⟩) (fun p o q => ?_)
  · by_cases h : p ∈ A i
    · rw [addZ_in h] at e; exact e
    · rw [addZ_out h] at e; exact R.sub p o e
  · by_cases h : p ∈ A i
    · exact .inr (.inl (R.young e id h))
    · rw [addZ_out h] at e'; exact .inl e'
  · by_cases h : p ∈ A i
    · rw [addZ_in h] at e'; exact absurd e' (R.noTbl h ps)
    · rw [addZ_out h] at e'; exact e'
  · rw [addZ_out fun h => hj (R.dis j i b hb h)]
    exact R.zo j b hb
  · obtain ⟨q1, q2, q3⟩ := R.pf p o q
    exact ⟨q1, by rw [addZ_out (q3 i)]; exact q2, fun h => by cases h⟩
/-- a name holds a shared value -/
theorem RS.setSh (R : RS K c σ H Z ev A) {i : Nat} {sv : SV} {x : V} {d : D} (e : ev[i]? = some sv) (n : ¬ sv.isIo) (r : Rp K Z x d) : RS K c (σ.set i (some x)) H Z (ev.set i (.sh d)) (setA A i []) := by
  have hi : i < ev.length := (List.getElem?_eq_some_iff.mp e).1
  have hi' : i < σ.length := by rw [R.len]; exact hi
  refine R.slotNew hi (by simp) (fun j hj => List.getElem?_set_ne (Ne.symm hj)) (Same.refl _) R.sub (fun _ _ q => .inl q) (fun _ _ _ _ _ q => q) (fun _ _ _ _ q => q) (fun _ _ q => q) R.tb (fun j _ b hb => R.zo j b hb) ⟨rfl, x, List.getElem?_set_self hi', r⟩
    (fun _ h => by cases h) (fun _ h => by cases h) (fun _ h => by cases h) List.nodup_nil (.inl ⟨R.noP e n, id⟩) (fun p o q => ⟨(R.pf p o q).1, (R.pf p o q).2.1, fun h => by cases h⟩)
/-- a name holds a new object -/
theorem RS.setOw (R : RS K c σ H Z ev A) {i : Nat} {sv : SV} {x : V} {o : OV} (e : ev[i]? = some sv) (n : ¬ sv.isIo) (r : RR K c σ H Z ev A x (.f o)) : ∃ A', RS K c (σ.set i (some x)) H Z (ev.set i (.ow o)) A' := by
  have hi : i < ev.length := (List.getElem?_eq_some_iff.mp e).1
  have hi' : i < σ.length := by rw [R.len]; exact hi
  obtain ⟨a, as, rfl, h1, nd, h2⟩ := r
  refine ⟨setA A i as, R.slotNew hi (by simp) (fun j hj => List.getElem?_set_ne (Ne.symm hj)) (Same.refl _) R.sub (fun _ _ q => .inl q) (fun _ _ _ _ _ q => q) (fun _ _ _ _ q => q) (fun _ _ q => q) R.tb (fun j _ b hb => R.zo j b hb) ⟨a, List.getElem?_set_self hi', h1⟩
    (fun b h => (h2 b h).1) (fun b h => .inr (h2 b h).2.1) (fun b h j _ => (h2 b h).2.2.2 j) nd (.inl ⟨R.noP e n, id⟩)
    (fun p o q => ⟨(R.pf p o q).1, (R.pf p o q).2.1, fun h => by rw [(h2 p h).2.2.1] at q; cases q⟩)⟩
/-- a name is emptied -/
theorem RS.setNo (R : RS K c σ H Z ev A) {i : Nat} {sv : SV} (e : ev[i]? = some sv) (n : ¬ sv.isIo) : RS K c (σ.set i none) H Z (ev.set i .no) (setA A i []) := by
  have hi : i < ev.length := (List.getElem?_eq_some_iff.mp e).1
  refine R.slotNew hi (by simp) (fun j hj => List.getElem?_set_ne (Ne.symm hj)) (Same.refl _) R.sub (fun _ _ q => .inl q) (fun _ _ _ _ _ q => q) (fun _ _ _ _ q => q) (fun _ _ q => q) R.tb (fun j _ b hb => R.zo j b hb) rfl
    (fun _ h => by cases h) (fun _ h => by cases h) (fun _ h => by cases h) List.nodup_nil (.inl ⟨R.noP e n, id⟩) (fun p o q => ⟨(R.pf p o q).1, (R.pf p o q).2.1, fun h => by cases h⟩)
/-- an owned object is hidden: its name is not read meanwhile -/
theorem RS.hide (R : RS K c σ H Z ev A) {i : Nat} {sv : SV} (e : ev[i]? = some sv) (n : ¬ sv.isIo) : RS K c σ H Z (ev.set i .no) (setA A i []) := by
  have hi : i < ev.length := (List.getElem?_eq_some_iff.mp e).1
  refine R.slotNew hi rfl (fun j hj => rfl) (Same.refl _) R.sub (fun _ _ q => .inl q) (fun _ _ _ _ _ q => q) (fun _ _ _ _ q => q) (fun _ _ q => q) R.tb (fun j _ b hb => R.zo j b hb) rfl
    (fun _ h => by cases h) (fun _ h => by cases h) (fun _ h => by cases h) List.nodup_nil (.inl ⟨R.noP e n, id⟩) (fun p o q => ⟨(R.pf p o q).1, (R.pf p o q).2.1, fun h => by cases h⟩)
theorem setA_self {i : Nat} : setA A i (A i) = A := by
  funext j
  unfold setA
  split
  · rename_i h; rw [h]
  · rfl
/-- an owned object changes, its addresses stay -/
theorem RS.change (R : RS K c σ H Z ev A) {i : Nat} {sv sw : SV} (e : ev[i]? = some sv) (n : (¬ sv.isIo ∧ ¬ sw.isIo) ∨ (sv.isIo ∧ sw.isIo)) (k : ∀ b, b ∉ A i → H' b = H b) (new : SlR K Z H' σ[i]? (A i) sw) :
    RS K c σ H' Z (ev.set i sw) A := by
  have hi : i < ev.length := (List.getElem?_eq_some_iff.mp e).1
  have q := R.slotNew (σ' := σ) (H' := H') (Z' := Z) (as := A i) (sv := sw) hi rfl (fun _ _ => rfl) (Same.refl _) (fun p o e' => ?_) (fun _ _ q => .inl q) (fun j hj b hb u q => ?_) (fun p o e1 e2 e3 => ?_) (fun _ _ q => q) (R.tbKeep k) (fun j _ b hb => R.zo j b hb) new
    (R.zo i) (R.ao i) (fun b hb j hj hb' => hj (R.dis j i b hb' hb)) (R.nod i) ?_ (fun p o q => ⟨?_, (R.pf p o q).2.1, (R.pf p o q).2.2 i⟩)
  · rw [setA_self] at q; exact q
  · by_cases h : p ∈ A i
    · rw [R.zo i p h] at e'; cases e'
    · rw [k p h]; exact R.sub p o e'
  · rw [k b fun h => hj (R.dis j i b hb h)]; exact q
  · by_cases h : p ∈ A i
    · rcases R.ao i p h with ⟨j, q⟩ | q
      · exact absurd q (e2 j)
      · exact absurd q e1
    · rw [k p h]; exact e3
  · rcases n with ⟨n1, n2⟩ | ⟨n1, n2⟩
    · exact .inl ⟨R.noP e n1, n2⟩
    · refine .inr ⟨rfl, n2, ?_⟩
      cases sv with
      | io ds => exact R.oi i ds e
      | _ => exact n1.elim
  · rw [k p ((R.pf p o q).2.2 i)]; exact (R.pf p o q).1
/-- a new object -/
theorem RS.fresh (R : RS K c σ H Z ev A) {p : Addr} {o : HO} (hp : H p = none) : RS K c σ (upd H p o) Z ev A :=
  R.ext (Same.refl _) (fun b u e => by rw [upd_ne (ne_of_none (R.sub b u e) hp)]; exact R.sub b u e) (fun _ _ q => .inl q) (fun _ _ q => q) fun b u e => by rw [upd_ne (ne_of_none e hp)]; exact e
theorem RS.zFree (R : RS K c σ H Z ev A) {p : Addr} (hp : H p = none) : Z p = none := by
  cases q : Z p with
  | none => rfl
  | some o => rw [R.sub p o q] at hp; cases hp
theorem RS.fFree (R : RS K c σ H Z ev A) {p : Addr} (hp : H p = none) : c.F p = none := by
  cases q : c.F p with
  | none => rfl
  | some o => rw [(R.pf p o q).1] at hp; cases hp
theorem RS.notin (R : RS K c σ H Z ev A) {p : Addr} (hp : H p = none) : Z p = none ∧ c.H p = none ∧ c.F p = none ∧ ∀ i, p ∉ A i :=
  ⟨R.zFree hp, R.dead hp, R.fFree hp, fun i h => R.alive h hp⟩
/-- something is kept besides -/
def En.hold (c : En) (H : Hp) (as : List Addr) : En := { c with F := addZ c.F H as }
theorem RS.hold (R : RS K c σ H Z ev A) {as : List Addr} (h : ∀ p ∈ as, H p ≠ none ∧ Z p = none ∧ ∀ i, p ∉ A i) (ht : ∀ p ∈ as, ∀ xs, H p ≠ some (.tup xs)) (hz : ∀ p ∈ as, ∀ ps, H p ≠ some (.tbl ps)) : RS K (c.hold H as) σ H Z ev A :=
  { R with
    pf := fun q u e => by
      have e' : addZ c.F H as q = some u := e
      by_cases hq : q ∈ as
      · rw [addZ_in hq] at e'
        exact ⟨e', (h q hq).2⟩
      · rw [addZ_out hq] at e'
        exact R.pf q u e'
    ft := fun q u e => by
      have e' : addZ c.F H as q = some u := e
      by_cases hq : q ∈ as
      · rw [addZ_in hq] at e'
        rintro ⟨xs, rfl⟩
        exact ht q hq xs e'
      · rw [addZ_out hq] at e'
        exact R.ft q u e'
    fz := fun q u e => by
      have e' : addZ c.F H as q = some (.tbl u) := e
      by_cases hq : q ∈ as
      · rw [addZ_in hq] at e'
        exact hz q hq u e'
      · rw [addZ_out hq] at e'
        exact R.fz q u e' }
theorem RS.unhold {as : List Addr} (R : RS K (c.hold H as) σ H' Z' ev A) (n : ∀ p ∈ as, c.F p = none) : RS K c σ H' Z' ev A ∧ ∀ p ∈ as, ∀ o, H p = some o → H' p = some o ∧ Z' p = none ∧ ∀ i, p ∉ A i := by
  refine ⟨{ R with pf := fun q u e => R.pf q u ?_, ft := fun q u e => R.ft q u ?_, fz := fun q u e => R.fz q u ?_ }, fun p hp o e => R.pf p o ?_⟩
  · show addZ c.F H as q = some u
    rw [addZ_out fun hq => by rw [n q hq] at e; cases e]
    exact e
  · show addZ c.F H as q = some u
    rw [addZ_out fun hq => by rw [n q hq] at e; cases e]
    exact e
  · show addZ c.F H as q = some (.tbl u)
    rw [addZ_out fun hq => by rw [n q hq] at e; cases e]
    exact e
  · show addZ c.F H as p = some o
    rw [addZ_in hp]; exact e
/-- what nobody holds may change -/
theorem RS.aside (R : RS K c σ H Z ev A) {p : Addr} {o : HO} (z : Z p = none) (a : ∀ i, p ∉ A i) (h : c.H p = none) (f : c.F p = none) (t : ∀ ps, H p ≠ some (.tbl ps)) (x : ∀ φ, H p ≠ some (.ext φ)) : RS K c σ (upd H p o) Z ev A :=
  { R with
    sub := fun q u e => by rw [upd_ne (fun y => by subst y; rw [z] at e; cases e)]; exact R.sub q u e
    fr := fun q u e n t => by rw [upd_ne (fun y => by subst y; rw [h] at e; cases e)]; exact R.fr q u e n t
    tk := fun q ps e => by rw [upd_ne (fun y => by subst y; rw [h] at e; cases e)]; exact R.tk q ps e
    tb := fun y P e => by
      obtain ⟨ps, h1, h2, h3⟩ := R.tb y P e
      refine ⟨ps, by rw [upd_ne (fun y => by subst y; exact t ps h1)]; exact h1, h2, fun pos cv q => ?_⟩
      obtain ⟨c', e1, e2⟩ := h3 pos cv q
      exact ⟨c', e1, by rw [upd_ne (fun y => by subst y; exact x _ e2)]; exact e2⟩
    sl := fun i sv e => (R.sl i sv e).mono (Same.refl _) fun b hb u q => by rw [upd_ne (fun y => by subst y; exact a i hb)]; exact q
    pf := fun q u e => by
      obtain ⟨h1, h2, h3⟩ := R.pf q u e
      exact ⟨by rw [upd_ne (fun y => by subst y; rw [f] at e; cases e)]; exact h1, h2, h3⟩ }
/-- a new object, shared at once -/
theorem RS.freshZ (R : RS K c σ H Z ev A) {p : Addr} {o : HO} (hp : H p = none) (no : ∀ ps, o ≠ .tbl ps := by intro _ h; cases h) : Same Z (upd Z p o) ∧ RS K c σ (upd H p o) (upd Z p o) ev A := by
  have zp := (R.notin hp).1
  have s : Same Z (upd Z p o) := fun b u e => by rw [upd_ne (ne_of_none e zp)]; exact e
  refine ⟨s, R.ext s (fun b u e => ?_) (fun b u e => ?_) (fun b ps e => ?_) fun b u e => by rw [upd_ne (ne_of_none e hp)]; exact e⟩
  · by_cases h : b = p
    · subst h; rw [upd_same] at e ⊢; exact e
    · rw [upd_ne h] at e ⊢; exact R.sub b u e
  · by_cases h : b = p
    · subst h; exact .inr (.inl hp)
    · rw [upd_ne h] at e; exact .inl e
  · by_cases h : b = p
    · subst h; rw [upd_same] at e; exact absurd (Option.some.inj e) (no ps)
    · rw [upd_ne h] at e; exact e
/-- what a slot or value reads as -/
theorem RS.slot (R : RS K c σ H Z ev A) {i : Nat} {sv : SV} (e : ev[i]? = some sv) : SlR K Z H σ[i]? (A i) sv := R.sl i sv e
end Bide

set_option autoImplicit false
set_option Elab.async false
set_option maxRecDepth 100000
set_option linter.all false
/-! Operations by values. -/
namespace Bide
open PySem L2

theorem line_eq : line = sizeLine := by rw [sizeLine_eq]; rfl

/-- what may be read: shared data, or what stands in an owned list or dict -/
def RdV (K : PySem.W.Frag) (Z H : Hp) (x : V) (d : D) : Prop :=
  Rp K Z x d ∨ ∃ a, x = .ref a ∧ ((∃ ds xs, d = .list ds ∧ H a = some (.lst xs) ∧ xs.length ≤ sizeLine ∧ Rps K Z xs ds) ∨
    (∃ kvs ks, d = .dict ((.bool false, .none) :: kvs) ∧ H a = some (.dK ks) ∧ ks.length ≤ sizeLine ∧ RpK K Z ks kvs) ∨ (∃ kvs ks, d = .dict ((.bool true, .none) :: kvs) ∧ H a = some (.dT ks) ∧ ks.length ≤ sizeLine ∧ RpT K Z ks kvs))
section
variable {K : PySem.W.Frag} {Z H Z' H' : Hp} {x : V} {d : D}
theorem RdV.int {i : Int} (h : RdV K Z H x (.int i)) : x = .int i := by
  rcases h with h | ⟨a, _, ⟨_, _, e, _⟩ | ⟨_, _, e, _⟩ | ⟨_, _, e, _⟩⟩
  · cases h; rfl
  all_goals cases e
theorem RdV.bool {i : Bool} (h : RdV K Z H x (.bool i)) : x = .bl i := by
  rcases h with h | ⟨a, _, ⟨_, _, e, _⟩ | ⟨_, _, e, _⟩ | ⟨_, _, e, _⟩⟩
  · cases h; rfl
  all_goals cases e
theorem RdV.none (h : RdV K Z H x .none) : x = .non := by
  rcases h with h | ⟨a, _, ⟨_, _, e, _⟩ | ⟨_, _, e, _⟩ | ⟨_, _, e, _⟩⟩
  · cases h; rfl
  all_goals cases e
theorem RdV.str {y : Str} (h : RdV K Z H x (.str y)) : x = .str y := by
  rcases h with h | ⟨a, _, ⟨_, _, e, _⟩ | ⟨_, _, e, _⟩ | ⟨_, _, e, _⟩⟩
  · cases h; rfl
  all_goals cases e
theorem RdV.list {ds : List D} (s : Same Z H) (h : RdV K Z H x (.list ds)) : ∃ a xs, x = .ref a ∧ H a = some (.lst xs) ∧ xs.length ≤ sizeLine ∧ Rps K Z xs ds := by
  rcases h with h | ⟨a, ea, ⟨_, xs, e, q1, q2, q3⟩ | ⟨_, _, e, _⟩ | ⟨_, _, e, _⟩⟩
  · cases h with
    | lst h1 h2 h3 => exact ⟨_, _, rfl, s _ _ h1, h2, h3⟩
  · cases e; exact ⟨a, xs, ea, q1, q2, q3⟩
  · cases e
  · cases e
theorem RdV.tuple {ds : List D} (s : Same Z H) (h : RdV K Z H x (.tuple ds)) : ∃ a xs, x = .ref a ∧ H a = some (.tup xs) ∧ xs.length ≤ sizeLine ∧ Rps K Z xs ds := by
  rcases h with h | ⟨a, ea, ⟨_, xs, e, q1, q2, q3⟩ | ⟨_, _, e, _⟩ | ⟨_, _, e, _⟩⟩
  · cases h with
    | tup h1 h2 h3 => exact ⟨_, _, rfl, s _ _ h1, h2, h3⟩
  all_goals cases e
theorem RdV.dp (s : Same Z H) (h : RdV K Z H x d) (c : d.canLay0 = true) : Dp K H x d := by
  rcases h with h | ⟨a, rfl, ⟨ds, xs, rfl, q1, q2, q3⟩ | ⟨_, _, rfl, _⟩ | ⟨_, _, rfl, _⟩⟩
  · exact h.dp s c
  · exact .lst (.inl (.inl q1)) (q3.dp s (by simpa [PyData.canLay0] using c))
  · simp [PyData.canLay0] at c
  · simp [PyData.canLay0] at c
theorem RdV.none_iff (h : RdV K Z H x d) : decide (x = .non) = isNone d := by
  rcases h with h | ⟨a, rfl, ⟨ds, xs, rfl, _⟩ | ⟨_, _, rfl, _⟩ | ⟨_, _, rfl, _⟩⟩
  · cases h <;> rfl
  all_goals rfl
theorem RdV.flatV (h : RdV K Z H x d) (f : flat d = true) : L2.flatV x = true := by
  rcases h with h | ⟨a, rfl, ⟨ds, xs, rfl, _⟩ | ⟨_, _, rfl, _⟩ | ⟨_, _, rfl, _⟩⟩
  · cases h <;> first | rfl | (simp [flat] at f)
  all_goals (simp [flat] at f)
theorem Rp.eqV {y : V} {e : D} (h : Rp K Z x d) (h' : Rp K Z y e) (f : flat d = true) (f' : flat e = true) : L2.eqV x y = PyData.eqv d e := by
  cases h <;> (first | (simp [flat] at f; done) | skip) <;> cases h' <;> (first | (simp [flat] at f'; done) | (simp [L2.eqV,PyData.eqv]))
theorem RdV.eqV {y : V} {e : D} (h : Rp K Z y e) (h' : RdV K Z H x d) (f : flat d = true) (f' : flat e = true) : L2.eqV y x = PyData.eqv e d := by
  rcases h' with h' | ⟨a, rfl, ⟨ds, xs, rfl, _⟩ | ⟨_, _, rfl, _⟩ | ⟨_, _, rfl, _⟩⟩
  · exact h.eqV h' f' f
  all_goals (simp [flat] at f)
theorem Rps.flat : ∀ {xs : List V} {ds : List D}, Rps K Z xs ds → ds.all Bide.flat = true → xs.all L2.flatV = true
  | _, _, .nil, _ => rfl
  | _, _, .cons h r, f => by
    simp only [List.all_cons, Bool.and_eq_true] at f ⊢
    exact ⟨RdV.flatV (.inl h : RdV K Z Z _ _) f.1, Rps.flat r f.2⟩
theorem Rps.inV : ∀ {xs : List V} {ds : List D}, Rps K Z xs ds → RdV K Z H x d → Bide.flat d = true → ds.all Bide.flat = true → L2.inV x xs = ds.any fun y => PyData.eqv y d
  | _, _, .nil, _, _, _ => rfl
  | _, _, .cons h r, q, f, f' => by
    simp only [List.all_cons, Bool.and_eq_true] at f'
    have ih := Rps.inV r q f f'.2
    unfold L2.inV at ih ⊢
    rw [List.any_cons, List.any_cons, ih, RdV.eqV h q f f'.1]

/-- the heap and what is shared grow -/
structure Grow (Z H Z' H' : Hp) : Prop where
  zz : Same Z Z'
  sub : Same Z' H'
  zf : ∀ p o, Z' p = some o → Z p = some o ∨ H p = Option.none ∨ HoTup o
  nt : ∀ p ps, Z' p = some (.tbl ps) → Z p = some (.tbl ps)
  hh : Same H H'
theorem Grow.refl (s : Same Z H) : Grow Z H Z H := ⟨Same.refl _, s, fun _ _ q => .inl q, fun _ _ q => q, Same.refl _⟩
theorem zFree {p : Addr} (s : Same Z H) (hp : H p = Option.none) : Z p = Option.none := by
  cases q : Z p with
  | none => rfl
  | some o => rw [s p o q] at hp; cases hp
theorem Grow.new {p : Addr} {o : HO} (s : Same Z H) (hp : H p = Option.none) (no : ∀ ps, o ≠ .tbl ps := by intro _ h; cases h) : Grow Z H (L2.upd Z p o) (L2.upd H p o) where
  zz := fun b u e => by rw [upd_ne (ne_of_none e (zFree s hp))]; exact e
  sub := fun b u e => by
    by_cases h : b = p
    · subst h; rw [upd_same] at e ⊢; exact e
    · rw [upd_ne h] at e ⊢; exact s b u e
  zf := fun b u e => by
    by_cases h : b = p
    · subst h; exact .inr (.inl hp)
    · rw [upd_ne h] at e; exact .inl e
  nt := fun b ps e => by
    by_cases h : b = p
    · subst h; rw [upd_same] at e; exact absurd (Option.some.inj e) (no ps)
    · rw [upd_ne h] at e; exact e
  hh := fun b u e => by rw [upd_ne (ne_of_none e hp)]; exact e
theorem Grow.own {p : Addr} {o : HO} (s : Same Z H) (hp : H p = Option.none) : Grow Z H Z (L2.upd H p o) where
  zz := Same.refl _
  sub := fun b u e => by rw [upd_ne (ne_of_none (s b u e) hp)]; exact s b u e
  zf := fun _ _ q => .inl q
  nt := fun _ _ q => q
  hh := fun b u e => by rw [upd_ne (ne_of_none e hp)]; exact e
/-- a result that an operation makes -/
def New (K : PySem.W.Frag) (H Z' H' : Hp) (x : V) : RV → Prop
  | .v d => Rp K Z' x d
  | .f o => ∃ a as, x = .ref a ∧ OC K Z' H' as a o ∧ as.Nodup ∧ ∀ b ∈ as, Z' b = Option.none ∧ H b = Option.none
  | .s _ => False
def Give (K : PySem.W.Frag) (Z H : Hp) (r : RV) (Q : VK) : Prop := ∀ x Z' H', Grow Z H Z' H' → New K H Z' H' x r → Q x H'
theorem Give.v {Q : VK} (s : Same Z H) (g : Give K Z H (.v d) Q) (r : Rp K Z x d) : Q x H := g x Z H (Grow.refl s) r
theorem Give.tup {Q : VK} {ds : List D} {xs : List V} (s : Same Z H) (g : Give K Z H (.v (.tuple ds)) Q) (l : xs.length ≤ sizeLine) (r : Rps K Z xs ds) {p : Addr} (hp : H p = Option.none) : Q (.ref p) (L2.upd H p (.tup xs)) :=
  have gr := Grow.new (o := .tup xs) s hp
  g _ _ _ gr (.tup upd_same l (r.mono gr.zz))
theorem Give.lst {Q : VK} {ds : List D} {xs : List V} (s : Same Z H) (g : Give K Z H (.f (.l ds)) Q) (l : xs.length ≤ sizeLine) (r : Rps K Z xs ds) {p : Addr} (hp : H p = Option.none) : Q (.ref p) (L2.upd H p (.lst xs)) :=
  g _ _ _ (Grow.own s hp) ⟨p, [p], rfl, ⟨rfl, xs, upd_same, l, r⟩, by simp, fun b hb => by cases List.mem_singleton.mp hb; exact ⟨zFree s hp, hp⟩⟩
theorem Give.dct {Q : VK} {t : Bool} (s : Same Z H) (g : Give K Z H (.f (.d t [])) Q) {p : Addr} (hp : H p = Option.none) : Q (.ref p) (L2.upd H p (if t then .dT [] else .dK [])) := by
  refine g _ _ _ (Grow.own s hp) ⟨p, [p], rfl, ?_, by simp, fun b hb => by cases List.mem_singleton.mp hb; exact ⟨zFree s hp, hp⟩⟩
  cases t
  · exact ⟨rfl, [], upd_same, Nat.zero_le _, .nil⟩
  · exact ⟨rfl, [], upd_same, Nat.zero_le _, .nil⟩
end

def Bop.py : Bop → Operator
  | .add => .Add
  | .sub => .Sub
  | .mul => .Mult
  | .fdiv => .FloorDiv
  | .mod => .Mod
  | .pow => .Pow
def Cop.py : Cop → CmpOp
  | .eq => .Eq
  | .ne => .NotEq
  | .lt => .Lt
  | .le => .LtE
  | .gt => .Gt
  | .ge => .GtE
  | .isN => .Is
  | .notN => .IsNot
  | .isB => .Is
  | .notB => .IsNot
  | .inn => .In
  | .notin => .NotIn
/-- the wish of a two-place operation -/
def rOf (K : PySem.W.Frag) (g : D → D → Option RV) : R2 := fun x y H Q => ∃ Z d e r, Same Z H ∧ RdV K Z H x d ∧ RdV K Z H y e ∧ g d e = some r ∧ Give K Z H r Q
section
variable {X : Cx}
theorem bop_ok (o : Bop) : OpR X (binaryOp o.py) (rOf X.K (bop o)) := by
  intro pins s σ H x y v u Q I rx ry h
  obtain ⟨Z, d, e, r, sz, hx, hy, hb, g⟩ := h
  unfold bop at hb
  split at hb
  · cases hb
    cases hx.int; cases hy.int
    exact op_add pins s σ H _ _ v u Q I rx ry ⟨_, _, rfl, rfl, g.v sz (.int _)⟩
  · split at hb <;> cases hb
    rename_i hl
    rw [line_eq] at hl
    cases hx.str; cases hy.str
    exact op_add_str pins s σ H _ _ v u Q I rx ry ⟨_, _, rfl, rfl, hl, g.v sz (.str _)⟩
  · split at hb <;> cases hb
    rename_i hl
    rw [line_eq] at hl
    obtain ⟨a, xs, rfl, h1, h2, h3⟩ := hx.tuple sz
    obtain ⟨b, ys, rfl, q1, q2, q3⟩ := hy.tuple sz
    have hl' : xs.length + ys.length ≤ sizeLine := by rw [h3.length, q3.length]; exact hl
    refine op_catA pins s σ H _ _ v u Q I rx ry ⟨a, b, xs, ys, rfl, rfl, .inl (.inl h1), .inl (.inl q1), hl', fun z => ?_, fun z1 z2 => ?_, fun _ _ p hp => ?_⟩
    · have e1 := h3.length
      rw [z] at e1
      have : (_ : List D) = [] := List.length_eq_zero_iff.mp e1.symm
      rw [this, List.nil_append] at g
      rcases hy with hy | ⟨_, _, ⟨_, _, e, _⟩ | ⟨_, _, e, _⟩ | ⟨_, _, e, _⟩⟩
      · exact g.v sz hy
      all_goals cases e
    · have e1 := q3.length
      rw [z2] at e1
      have : (_ : List D) = [] := List.length_eq_zero_iff.mp e1.symm
      rw [this, List.append_nil] at g
      rcases hx with hy | ⟨_, _, ⟨_, _, e, _⟩ | ⟨_, _, e, _⟩ | ⟨_, _, e, _⟩⟩
      · exact g.v sz hy
      all_goals cases e
    · exact g.tup sz (by rw [List.length_append]; exact hl') (h3.append q3) hp
  · split at hb <;> cases hb
    rename_i hl
    rw [line_eq] at hl
    obtain ⟨a, xs, rfl, h1, h2, h3⟩ := hx.list sz
    obtain ⟨b, ys, rfl, q1, q2, q3⟩ := hy.list sz
    have hl' : xs.length + ys.length ≤ sizeLine := by rw [h3.length, q3.length]; exact hl
    exact op_cat pins s σ H _ _ v u Q I rx ry ⟨a, b, xs, ys, rfl, rfl, h1, q1, hl', fun p hp => g.lst sz (by rw [List.length_append]; exact hl') (h3.append q3) hp⟩
  · cases hb
    cases hx.int; cases hy.int
    exact op_sub pins s σ H _ _ v u Q I rx ry ⟨_, _, rfl, rfl, g.v sz (.int _)⟩
  · split at hb <;> cases hb
    rename_i hl
    cases hx.int; cases hy.int
    exact op_mul pins s σ H _ _ v u Q I rx ry ⟨_, _, rfl, rfl, hl, g.v sz (.int _)⟩
  · split at hb <;> cases hb
    rename_i hl
    obtain ⟨l0, l1, l2, l3⟩ := hl
    cases hy.int
    obtain ⟨a, xs, rfl, h1, h2, h3⟩ := hx.tuple sz
    have e0 := h3.length
    have hne : xs ≠ [] := fun z => by
      rw [z] at e0
      exact l0 (List.length_eq_zero_iff.mp e0.symm)
    refine op_repT pins s σ H _ _ v u Q I rx ry ⟨a, _, xs, rfl, rfl, .inl (.inl h1), hne, l1, l2, by rw [e0]; exact l3, fun p hp => g.tup sz ?_ (h3.rep _) hp⟩
    rw [List.length_flatten, List.map_replicate, List.sum_replicate_nat, sizeLine_eq]
    have : (_ : Int).toNat ≤ 1000 := Int.toNat_le.mpr l2
    exact Nat.le_trans (Nat.mul_le_mul this (by rw [e0]; exact l3)) (by decide)
  · split at hb <;> cases hb
    rename_i hl
    rw [line_eq] at hl
    obtain ⟨l0, l1, l2⟩ := hl
    cases hy.int
    obtain ⟨a, xs, rfl, h1, h2, h3⟩ := hx.list sz
    rw [← h3.length] at l0
    refine op_rep pins s σ H _ _ v u Q I rx ry ⟨a, _, xs, rfl, rfl, h1, by omega, by omega, l0, fun p hp => g.lst sz ?_ (h3.rep _) hp⟩
    rw [List.length_flatten, List.map_replicate, List.sum_replicate_nat, Nat.mul_comm]
    exact l0
  · split at hb <;> cases hb
    rename_i hl
    cases hx.int; cases hy.int
    exact op_fdiv pins s σ H _ _ v u Q I rx ry ⟨_, _, rfl, rfl, hl, g.v sz (.int _)⟩
  · split at hb <;> cases hb
    rename_i hl
    cases hx.int; cases hy.int
    exact op_mod pins s σ H _ _ v u Q I rx ry ⟨_, _, rfl, rfl, hl, g.v sz (.int _)⟩
  · split at hb <;> cases hb
    rename_i hl
    cases hx.int; cases hy.int
    exact op_pow pins s σ H _ _ v u Q I rx ry ⟨_, _, rfl, rfl, hl, g.v sz (.int _)⟩
  · cases hb
end
end Bide

set_option autoImplicit false
set_option Elab.async false
set_option maxRecDepth 100000
set_option linter.all false
/-! Operations by values: dicts, comparisons, truth, built-in functions. -/
namespace Bide
open PySem L2
section
variable {K : PySem.W.Frag} {Z H Z' H' : Hp} {x : V} {d : D}
theorem sameKey_kd : ∀ (a b : Key), sameKey (keyD a) (keyD b) = decide (a = b)
  | .inl i, .inl j => by by_cases h : i = j <;> simp [sameKey,keyD,h]
  | .inr i, .inr j => by by_cases h : i = j <;> simp [sameKey,keyD,h]
  | .inl i, .inr j => by simp [sameKey,keyD]
  | .inr i, .inl j => by simp [sameKey,keyD]
theorem eqv_kd : ∀ (a b : Key), PyData.eqv (keyD a) (keyD b) = decide (a = b)
  | .inl i, .inl j => by by_cases h : i = j <;> simp [PyData.eqv,keyD,h]
  | .inr i, .inr j => by by_cases h : i = j <;> simp [PyData.eqv,keyD,h]
  | .inl i, .inr j => by simp [PyData.eqv,keyD]
  | .inr i, .inl j => by simp [PyData.eqv,keyD]
theorem eqvs_kd : ∀ (a b : List Key), PyData.eqvAll (a.map keyD) (b.map keyD) = decide (a = b)
  | [], [] => by simp [PyData.eqvAll]
  | [], _ :: _ => by simp [PyData.eqvAll]
  | _ :: _, [] => by simp [PyData.eqvAll]
  | a :: as, b :: bs => by
    have ih := eqvs_kd as bs
    rw [List.map_cons, List.map_cons]
    simp only [PyData.eqvAll, eqv_kd, ih]
    by_cases h : a = b <;> by_cases h' : as = bs <;> simp [h,h']
theorem sameKey_kt (a b : List Key) : sameKey (.tuple (a.map keyD)) (.tuple (b.map keyD)) = decide (a = b) := by
  simp only [sameKey]; exact eqvs_kd a b
theorem RpK.get : ∀ {ks : List (Key × V)} {kvs : List (D × D)}, RpK K Z ks kvs → ∀ k : Key, (valV ks k = none ∧ getKV kvs (keyD k) = none) ∨ ∃ v d, valV ks k = some v ∧ getKV kvs (keyD k) = some d ∧ Rp K Z v d
  | _, _, .nil, _ => .inl ⟨rfl, rfl⟩
  | _, _, .cons (k := k') h r, k => by
    by_cases e : k' = k
    · refine .inr ⟨_, _, valV_pos e, ?_, h⟩
      simp only [getKV, sameKey_kd, e, decide_true, if_true]
    · rcases RpK.get r k with ⟨h1, h2⟩ | ⟨v, d, h1, h2, h3⟩
      · refine .inl ⟨by rw [valV_neg e]; exact h1, ?_⟩
        simp only [getKV, sameKey_kd, e, decide_false]
        exact h2
      · refine .inr ⟨v, d, by rw [valV_neg e]; exact h1, ?_, h3⟩
        simp only [getKV, sameKey_kd, e, decide_false]
        exact h2
theorem RpT.get : ∀ {ks : List (List Key × V)} {kvs : List (D × D)}, RpT K Z ks kvs → ∀ k : List Key, (valV ks k = none ∧ getKV kvs (.tuple (k.map keyD)) = none) ∨ ∃ v d, valV ks k = some v ∧ getKV kvs (.tuple (k.map keyD)) = some d ∧ Rp K Z v d
  | _, _, .nil, _ => .inl ⟨rfl, rfl⟩
  | _, _, .cons (k := k') _ h r, k => by
    by_cases e : k' = k
    · refine .inr ⟨_, _, valV_pos e, ?_, h⟩
      simp only [getKV, sameKey_kt, e, decide_true, if_true]
    · rcases RpT.get r k with ⟨h1, h2⟩ | ⟨v, d, h1, h2, h3⟩
      · refine .inl ⟨by rw [valV_neg e]; exact h1, ?_⟩
        simp only [getKV, sameKey_kt, e, decide_false]
        exact h2
      · refine .inr ⟨v, d, by rw [valV_neg e]; exact h1, ?_, h3⟩
        simp only [getKV, sameKey_kt, e, decide_false]
        exact h2
/-- a key's value -/
theorem key_of_flat {y : V} {k : D} (h : RdV K Z H y k) (o : keyOk k = true) : ∃ q : Key, y = kV q ∧ k = keyD q := by
  cases k <;> simp [keyOk] at o
  · exact ⟨.inl _, h.int, rfl⟩
  · exact ⟨.inr _, h.str, rfl⟩
theorem Rps.keys : ∀ {xs : List V} {ds : List D}, Rps K Z xs ds → ds.all keyOk = true → ∃ q : List Key, xs = q.map kV ∧ ds = q.map keyD
  | _, _, .nil, _ => ⟨[], rfl, rfl⟩
  | _, _, .cons h r, o => by
    simp only [List.all_cons, Bool.and_eq_true] at o
    obtain ⟨q, e1, e2⟩ := key_of_flat (.inl h : RdV K Z Z _ _) o.1
    obtain ⟨qs, e3, e4⟩ := Rps.keys r o.2
    exact ⟨q :: qs, by rw [e1, e3]; rfl, by rw [e2, e4]; rfl⟩
theorem RdV.dict {kvs : List (D × D)} (s : Same Z H) (h : RdV K Z H x (.dict ((.bool false, .none) :: kvs))) : ∃ a ks, x = .ref a ∧ Rd H a (.dK ks) ∧ ks.length ≤ sizeLine ∧ RpK K Z ks kvs := by
  rcases h with h | ⟨a, ea, ⟨_, _, e, _⟩ | ⟨_, ks, e, q1, q2, q3⟩ | ⟨_, _, e, _⟩⟩
  · cases h with
    | dk h1 h2 h3 => exact ⟨_, _, rfl, rd_same s h1, h2, h3⟩
  · cases e
  · cases e; exact ⟨a, ks, ea, .inl q1, q2, q3⟩
  · cases e
theorem RdV.dictT {kvs : List (D × D)} (s : Same Z H) (h : RdV K Z H x (.dict ((.bool true, .none) :: kvs))) : ∃ a ks, x = .ref a ∧ Rd H a (.dT ks) ∧ ks.length ≤ sizeLine ∧ RpT K Z ks kvs := by
  rcases h with h | ⟨a, ea, ⟨_, _, e, _⟩ | ⟨_, _, e, _⟩ | ⟨_, ks, e, q1, q2, q3⟩⟩
  · cases h with
    | dt h1 h2 h3 => exact ⟨_, _, rfl, rd_same s h1, h2, h3⟩
  · cases e
  · cases e
  · cases e; exact ⟨a, ks, ea, .inl q1, q2, q3⟩
/-- what a dict holds at a key -/
theorem dget_of {t : Bool} {y : V} {k : D} {kvs : List (D × D)} (s : Same Z H) (h : RdV K Z H x (.dict ((.bool t, .none) :: kvs))) (hy : RdV K Z H y k) (o : keyOkT t k = true) :
    ∃ a r, x = .ref a ∧ DGet H a y r ∧ ((r = none ∧ getKV kvs k = none) ∨ ∃ v d, r = some v ∧ getKV kvs k = some d ∧ Rp K Z v d) := by
  cases t with
  | false =>
    obtain ⟨a, ks, rfl, h1, h2, h3⟩ := h.dict s
    obtain ⟨q, rfl, rfl⟩ := key_of_flat hy o
    exact ⟨a, _, rfl, .inl ⟨_, q, h1, rfl, rfl⟩, h3.get q⟩
  | true =>
    obtain ⟨a, ks, rfl, h1, h2, h3⟩ := h.dictT s
    cases k <;> (first | (simp [keyOkT] at o; done) | skip)
    rename_i ds
    obtain ⟨b, xs, rfl, q1, q2, q3⟩ := hy.tuple s
    obtain ⟨q, rfl, rfl⟩ := q3.keys (by simpa [keyOkT] using o)
    exact ⟨a, _, rfl, .inr ⟨_, q, _, h1, rfl, q1, rfl⟩, h3.get q⟩
theorem RdV.ktup {ds : List D} (h : RdV K Z H x (.dict [(.none, .tuple ds)])) : ∃ a xs, x = .ref a ∧ SqT K (fun _ => Option.none) a xs ∧ xs.length ≤ sizeLine ∧ Rps K Z xs ds := by
  rcases h with h | ⟨a, ea, ⟨_, _, e, _⟩ | ⟨_, ks, e, q1, q2, q3⟩ | ⟨_, _, e, _⟩⟩
  · cases h with
    | ktup h1 h2 h3 => exact ⟨_, _, rfl, h1, h2, h3⟩
  all_goals cases e
theorem sqT_k {a : Addr} {xs : List V} (h : SqT K (fun _ => none) a xs) : SqT K H a xs := by
  rcases h with (h | ⟨o, h⟩) | h
  · cases h
  · cases h
  · exact .inr h
end

def cOf (K : PySem.W.Frag) (g : D → D → Option Bool) : R2 := fun x y H Q => ∃ Z d e r, Same Z H ∧ RdV K Z H x d ∧ RdV K Z H y e ∧ g d e = some r ∧ Q (.bl r) H
section
variable {X : Cx}
theorem in_ok (hu : X.A.units + 65 < cLine) : OpR X (compareOp .In) (cOf X.K dIn) := by
  intro pins s σ H x y v u Q I rx ry h
  obtain ⟨Z, d, e, r, sz, hx, hy, hb, g⟩ := h
  unfold dIn at hb
  split at hb
  · split at hb <;> cases hb
    rename_i ds hl
    have c1 := SeqAt.canLay_of_shaped hl.1
    have c2 := SeqAt.canLay_of_shaped hl.2
    exact op_inD hu pins s σ H _ _ v u Q I rx ry ⟨d, ds, hx.dp sz c1, hy.dp sz c2, hl.1, hl.2, g⟩
  · split at hb <;> cases hb
    rename_i ds hl
    obtain ⟨a, xs, rfl, h1, h2, h3⟩ := hy.tuple sz
    refine op_in_seq pins s σ H _ _ v u Q I rx ry ⟨a, xs, rfl, .inr (.inl (.inl h1)), hx.flatV hl.1, h3.flat hl.2, ?_⟩
    rw [if_neg (by decide), h3.inV hx hl.1 hl.2]; exact g
  · split at hb <;> cases hb
    rename_i ds hl
    obtain ⟨a, xs, rfl, h1, h2, h3⟩ := hy.ktup
    refine op_in_seq pins s σ H _ _ v u Q I rx ry ⟨a, xs, rfl, .inr (sqT_k h1), hx.flatV hl.1, h3.flat hl.2, ?_⟩
    rw [if_neg (by decide), h3.inV hx hl.1 hl.2]; exact g
  · split at hb <;> cases hb
    rename_i t kvs hl
    obtain ⟨a, r, rfl, dg, hr⟩ := dget_of sz hy hx hl
    obtain rfl : u = Value.ref a := ry
    refine d_in (by omega) I dg rx fun s' I' => ⟨.bl r.isSome, H, I', rfl, ?_⟩
    rcases hr with ⟨rfl, e⟩ | ⟨v', d', rfl, e, _⟩ <;> rw [e] at g <;> exact g
  · cases hb
theorem notin_ok (hu : X.A.units + 65 < cLine) : OpR X (compareOp .NotIn) (cOf X.K fun d e => (dIn d e).map not) := by
  intro pins s σ H x y v u Q I rx ry h
  obtain ⟨Z, d, e, r, sz, hx, hy, hb, g⟩ := h
  obtain ⟨k, hk, rfl⟩ := Option.map_eq_some_iff.mp hb
  clear hb
  unfold dIn at hk
  split at hk
  · split at hk <;> cases hk
    rename_i ds hl
    have c1 := SeqAt.canLay_of_shaped hl.1
    have c2 := SeqAt.canLay_of_shaped hl.2
    exact op_notInD hu pins s σ H _ _ v u Q I rx ry ⟨d, ds, hx.dp sz c1, hy.dp sz c2, hl.1, hl.2, g⟩
  · split at hk <;> cases hk
    rename_i ds hl
    obtain ⟨a, xs, rfl, h1, h2, h3⟩ := hy.tuple sz
    refine op_notIn_seq pins s σ H _ _ v u Q I rx ry ⟨a, xs, rfl, .inr (.inl (.inl h1)), hx.flatV hl.1, h3.flat hl.2, ?_⟩
    rw [if_pos rfl, h3.inV hx hl.1 hl.2]; exact g
  · split at hk <;> cases hk
    rename_i ds hl
    obtain ⟨a, xs, rfl, h1, h2, h3⟩ := hy.ktup
    refine op_notIn_seq pins s σ H _ _ v u Q I rx ry ⟨a, xs, rfl, .inr (sqT_k h1), hx.flatV hl.1, h3.flat hl.2, ?_⟩
    rw [if_pos rfl, h3.inV hx hl.1 hl.2]; exact g
  · split at hk <;> cases hk
    rename_i t kvs hl
    obtain ⟨a, r, rfl, dg, hr⟩ := dget_of sz hy hx hl
    obtain rfl : u = Value.ref a := ry
    refine d_notIn (by omega) I dg rx fun s' I' => ⟨.bl (!r.isSome), H, I', rfl, ?_⟩
    rcases hr with ⟨rfl, e⟩ | ⟨v', d', rfl, e, _⟩ <;> rw [e] at g <;> exact g
  · cases hk
theorem cop_ok (hu : X.A.units + 65 < cLine) (o : Cop) : OpR X (compareOp o.py) (cOf X.K (cop o)) := by
  intro pins s σ H x y v u Q I rx ry h
  obtain ⟨Z, d, e, r, sz, hx, hy, hb, g⟩ := h
  unfold cop at hb
  split at hb
  · split at hb <;> cases hb
    rename_i hl
    exact op_eqD (by omega) pins s σ H _ _ v u Q I rx ry ⟨d, e, hx.dp sz (SeqAt.canLay_of_shaped hl.1), hy.dp sz (SeqAt.canLay_of_shaped hl.2), hl.1, hl.2, g⟩
  · split at hb <;> cases hb
    rename_i hl
    exact op_neD (by omega) pins s σ H _ _ v u Q I rx ry ⟨d, e, hx.dp sz (SeqAt.canLay_of_shaped hl.1), hy.dp sz (SeqAt.canLay_of_shaped hl.2), hl.1, hl.2, g⟩
  · cases hb; cases hx.int; cases hy.int
    exact op_lt pins s σ H _ _ v u Q I rx ry ⟨_, _, rfl, rfl, g⟩
  · cases hb; cases hx.int; cases hy.int
    exact op_le pins s σ H _ _ v u Q I rx ry ⟨_, _, rfl, rfl, g⟩
  · cases hb; cases hx.int; cases hy.int
    exact op_gt pins s σ H _ _ v u Q I rx ry ⟨_, _, rfl, rfl, g⟩
  · cases hb; cases hx.int; cases hy.int
    exact op_ge pins s σ H _ _ v u Q I rx ry ⟨_, _, rfl, rfl, g⟩
  · cases hb; cases hx.bool; cases hy.bool
    exact op_isBl pins s σ H _ _ v u Q I rx ry ⟨_, _, rfl, rfl, g⟩
  · cases hb; cases hx.bool; cases hy.bool
    exact op_notBl pins s σ H _ _ v u Q I rx ry ⟨_, _, rfl, rfl, g⟩
  · cases hb; cases hy.none
    refine op_isN pins s σ H _ _ v u Q I rx ry ⟨rfl, ?_⟩
    rw [hx.none_iff]; exact g
  · cases hb; cases hy.none
    refine op_notN pins s σ H _ _ v u Q I rx ry ⟨rfl, ?_⟩
    rw [hx.none_iff]; exact g
  · exact in_ok hu pins s σ H _ _ v u Q I rx ry ⟨Z, _, _, r, sz, hx, hy, hb, g⟩
  · exact notin_ok hu pins s σ H _ _ v u Q I rx ry ⟨Z, _, _, r, sz, hx, hy, hb, g⟩
  · cases hb
end
end Bide

set_option autoImplicit false
set_option Elab.async false
set_option maxRecDepth 100000
set_option linter.all false
set_option maxHeartbeats 4000000
/-! sorted of tuples; of a dict. -/
namespace Bide
open PySem PySem.Spec PyProof.Rows L2
section
variable {X : Cx} {pins : List (Addr × Obj)} {σ : L2.St} {H Z : Hp} {s : Shared}
/-- a value shows data -/
def RvD (K : PySem.W.Frag) (Z : Hp) (v : Value) (d : D) : Prop := ∃ y, RelV y v ∧ Rp K Z y d
theorem each_rv {K : PySem.W.Frag} : ∀ {ys : List V} {vs : List Value} {ds : List D}, Vals ys vs → Rps K Z ys ds → PySem.W.EachIs (RvD K Z) vs ds
  | _, _, _, .nil, .nil => .nil
  | _, _, _, .cons r t, .cons p q => .cons ⟨_, r, p⟩ (each_rv t q)
theorem rv_each {K : PySem.W.Frag} : ∀ {vs : List Value} {ds : List D}, PySem.W.EachIs (RvD K Z) vs ds → ∃ ys, Vals ys vs ∧ Rps K Z ys ds
  | _, _, .nil => ⟨[], .nil, .nil⟩
  | _, _, .cons ⟨y, r, p⟩ t => by
    obtain ⟨ys, h1, h2⟩ := rv_each t
    exact ⟨y :: ys, .cons r h1, .cons p h2⟩
theorem rv_reads (I : Inv X pins σ H s) (sz : Same Z H) : ∀ {vs : List Value} {ds : List D}, PySem.W.EachIs (RvD X.K Z) vs ds → (∀ d ∈ ds, d.canLay0 = true) → PySem.W.EachIs (fun v (d : D) => ∃ as, Reads s.heap v (id d) as) vs ds
  | _, _, .nil, _ => .nil
  | _, _, .cons ⟨y, r, p⟩ t, h => .cons (Dp.reads I _ _ _ (p.dp sz (h _ (by simp))) r) (rv_reads I sz t fun d hd => h d (by simp [hd]))
theorem srtB_parts {ds : List D} (h : srtB ds = true) : PySem.W.AllAlike ds ∧ PySem.W.Sortable ds ∧ (∀ d ∈ ds, d.canLay0 = true) ∧ ∀ d ∈ ds, d.depth ≤ 60 := by
  simp only [srtB, Bool.and_eq_true, List.all_eq_true, decide_eq_true_eq] at h
  obtain ⟨h1, h2, h3⟩ := h
  refine ⟨h1, .inl fun d hd => ?_, fun d hd => (h3 d hd).1, fun d hd => (h3 d hd).2⟩
  have := h2 d hd
  cases d <;> first | (cases this; done) | skip
  rename_i l
  cases l with
  | nil => cases this
  | cons x r => exact ⟨x, r, rfl⟩
/-- sorted of a list of tuples -/
theorem sortD_run {a : Addr} {ys : List V} {ds : List D} {Q : VK} (I : Inv X pins σ H s) (sz : Same Z H) (hh : SqL X.K H a ys) (r : Rps X.K Z ys ds) (hs : srtB ds = true) (hu : X.A.units + 65 < cLine)
    (q : ∀ zs p, Rps X.K Z zs (ds.mergeSort (PySem.W.dataLe false id)) → zs.length ≤ sizeLine → H p = none → Q (.ref p) (upd H p (.lst zs))) : wpAny (model X.prog X.w) X.A (call (.builtin "sorted") [.ref a]) (EP X pins σ Q) X.xe s := by
  obtain ⟨its, rv, hl, hz⟩ := I.list hh
  obtain ⟨h1, h2, h3, h4⟩ := srtB_parts hs
  have e := each_rv rv r
  have hlen : ds.length = ys.length := r.length.symm
  refine PySem.W.sorted_data (bs := ds) (enc := id) (R := RvD X.K Z) hl.isList e (rv_reads I sz e h3) (by rw [List.map_id]; exact h1) (by rw [List.map_id]; exact h2) (by omega) (fun d hd => by have := h4 d hd; show X.A.units + 2 + d.depth < cLine; omega) fun out ho eo => ?_
  obtain ⟨zs, v1, v2⟩ := rv_each eo
  obtain ⟨ep, he'⟩ := PyProof.Rows.sortedAll_at s.heap its (List.toArray out)
  have hzl : zs.length ≤ sizeLine := by rw [v1.length, ho]; omega
  exact ⟨.ref _, upd H (s.heap.objs.size + 1) (.lst zs), I.laid (t' := s.toks) (fun _ _ => PyProof.Rows.sortedAll_old) (Nat.le_succ _) ⟨hzl, _, ep, v1, he'⟩, rfl, q _ _ v2 hzl (I.hok.fresh (Nat.le_succ _))⟩
end
section
open PySem.W PySem.Calls
variable {prog : Program} {w : World} {A : Around} {E : Value → Shared → Prop} {s : Shared}
theorem collect_tup {l : Addr} {vs : List Value} {Q : List Value → Shared → Prop} (hl : IsTup s.heap l vs.toArray)
    (h : Q vs { s with heap := (s.heap.push (seqObj "list" #[] 0)).update s.heap.objs.size (Obj.mapSeq (· ++ vs.toArray)) }) (hsz : vs.length ≤ sizeLine) :
    wpAny (model prog w) A (collect (.ref l)) Q E s := by
  obtain ⟨o, ho, hc, n, hd⟩ := id hl
  unfold collect
  refine wpAny_bind (wpAny_runValue (codeAny_builtin entry_proto_collect' ?_))
  show wpAny _ _ (do again (.builtin "list.__iadd__" ⟨[← newList [], .ref l], []⟩)) _ _ s
  refine wpAny_bind (wpAny_newList (wpAny_pure ⟨Code.quiet_builtin _ (by decide +kernel), codeAny_builtin entry_list_iadd' ?_⟩))
  show wpAny _ _ (Builtin.List.listExtendWith (.ref s.heap.objs.size) (.ref l) (.ref s.heap.objs.size)) _ _ { s with heap := s.heap.push (seqObj "list" #[] 0) }
  unfold Builtin.List.listExtendWith
  have ho' : (s.heap.push (seqObj "list" #[] 0)).get? l = some o := Heap.get?_push_of_some _ ho
  refine wpAny_bind (wpAny_typeOf (T := "tuple") ⟨o, ho', hc⟩ ?_)
  have ht : (Value.type "tuple" == Value.type "tuple") = true := by rfl
  rw [if_pos (by rw [ht]; simp)]
  refine wpAny_bind (listItems_at ho' hd ?_)
  refine wpAny_bind (listItems_at (xs := #[]) (n := 0) (Heap.get?_push_size _ rfl) rfl ?_)
  rw [if_neg (by simp)]
  refine wpAny_bind (listUpdate_at (xs := #[]) (n := 0) (Heap.get?_push_size _ rfl) rfl ?_ (Nat.zero_le _) (by show (#[] ++ vs.toArray).size ≤ sizeLine + 1; simp only [Array.size_append, List.size_toArray, List.length_nil]; omega))
  refine wpAny_pure ?_
  show wpAny (model prog w) A (do
      let o ← load s.heap.objs.size
      match o.data with
      | .seq xs _ => pure xs.toList
      | _ => unsupported "internal:collect") Q E { s with heap := (s.heap.push (seqObj "list" #[] 0)).update s.heap.objs.size (Obj.mapSeq (· ++ vs.toArray)) }
  refine wpAny_bind (wpAny_load (get?_update_seq (Heap.get?_push_size _ rfl) _) ?_)
  show wpAny _ _ (pure ((#[] : Array Value) ++ vs.toArray).toList) Q E _
  rw [show ((#[] : Array Value) ++ vs.toArray).toList = vs by simp]
  exact wpAny_pure h
theorem sorted_of_sortT {l : Addr} {vs : List Value} {kw : List (Str × Value)} {Q : Value → Shared → Prop} (hl : IsTup s.heap l vs.toArray) (hL : vs.length ≤ sizeLine) (ha1 : argsOk "sorted" ⟨[.ref l], kw⟩) (ha2 : ∀ x, argsOk "list.sort" ⟨[.ref x], kw⟩)
    (body : ∀ E' : Value → Shared → Prop, wpAny (model prog w) A.in1.in1 (Builtin.«list.sort» ⟨[.ref (s.heap.objs.size + 1)], kw⟩) (fun f s' => f = .done (.ret .none) ∧ Q (.ref (s.heap.objs.size + 1)) s') E' { s with heap := copyHeap s.heap vs }) :
    wpAny (model prog w) A (call (.builtin "sorted") [.ref l] kw) Q E s := by
  refine call_function_entry_kw kind_sorted plain_sorted entry_sorted ha1 ?_
  unfold Builtin.«sorted»
  refine wpAny_bind (m := checkCount "sorted" 1 1 _) (wpAny_pure ?_)
  refine wpAny_bind (collect_tup hl ?_ hL)
  refine wpAny_bind (wpAny_newList ?_ hL)
  have hsz : ((s.heap.push (seqObj "list" #[] 0)).update s.heap.objs.size (Obj.mapSeq (· ++ vs.toArray))).objs.size = s.heap.objs.size + 1 := by
    rw [Heap.size_update, size_push']
  show wpAny _ _ _ _ _ { s with heap := copyHeap s.heap vs }
  rw [hsz]
  refine wpAny_bind (wpAny_holding (wpAny_call_entry_kw slot_list_sort ⟨_, copyHeap_at s.heap vs, rfl⟩ entry_list_sort ?body (ha2 _)))
  case body =>
    show wpAny (model prog w) A.in1.in1 (Builtin.«list.sort» ⟨[.ref (s.heap.objs.size + 1)], kw⟩) _ _ _
    refine wpAny_mono (body _) (fun f s' hf => ?_) fun _ _ e => e
    obtain ⟨rfl, hq⟩ := hf
    exact ⟨_, rfl, wpAny_pure ⟨_, rfl, hq⟩⟩
theorem sorted_dataT {β : Type} {R : Value → β → Prop} {enc : β → PyData} {vs : List Value} {bs : List β} {l : Addr} {Q : Value → Shared → Prop} (hl : IsTup s.heap l vs.toArray) (e : EachIs R vs bs) (er : EachIs (fun v b => ∃ as, Reads s.heap v (enc b) as) vs bs) (hal : AllAlike (bs.map enc)) (hk : Sortable (bs.map enc)) (hL : bs.length ≤ sizeLine)
    (hu : ∀ b, b ∈ bs → A.units + 2 + (enc b).depth < cLine) (h : ∀ out, out.length = bs.length → EachIs R out (bs.mergeSort (dataLe false enc)) → Q (.ref (s.heap.objs.size + 1)) { s with heap := sortedAll s.heap vs (List.toArray out) }) :
    wpAny (model prog w) A (call (.builtin "sorted") [.ref l]) Q E s := by
  have er' : EachIs (fun v b => ∃ as, Reads (sortingHeap (copyHeap s.heap vs) (s.heap.objs.size + 1) vs) v (enc b) as) vs bs := er.mono fun _ _ ⟨as, r⟩ => ⟨as, PyProof.Rows.Reads.keeps (fun _ _ => sorting_copy_old) r⟩
  have hLv : vs.length ≤ sizeLine := by rw [e.length]; exact hL
  refine sorted_of_sortT hl hLv (args_sorted1 _) (fun _ => args_list_sort _) fun E' => list_sort_vals (s := { s with heap := copyHeap s.heap vs }) (copyHeap_at s.heap vs) (SortsAt.data (s := { s with heap := sortingHeap (copyHeap s.heap vs) (s.heap.objs.size + 1) vs }) (each_map (R := fun v d => ∃ as, Reads (sortingHeap (copyHeap s.heap vs) (s.heap.objs.size + 1) vs) v d as) enc er') hal hk (bound_map hu)) hLv ⟨rfl, ?_⟩
  exact h _ (by rw [sortVals_length false rfl]; exact e.length) (sortVals_data false e er' hal)
end
section
variable {X : Cx} {pins : List (Addr × Obj)} {σ : L2.St} {H Z : Hp} {s : Shared}
theorem ints_each : ∀ {ns : List Int} {vs : List Value}, Vals (ns.map V.int) vs → PySem.W.EachIs (fun v (i : Int) => ∃ t, v = .int i t) vs ns
  | [], _, r => by cases r; exact .nil
  | i :: ns, _, r => by
    cases r with
    | cons p t => exact .cons p (ints_each t)
theorem each_ints : ∀ {ns : List Int} {vs : List Value}, PySem.W.EachIs (fun v (i : Int) => ∃ t, v = .int i t) vs ns → Vals (ns.map V.int) vs
  | _, _, .nil => .nil
  | _, _, .cons p t => .cons p (each_ints t)
/-- sorted of a tuple of ints -/
theorem sortT_run {a : Addr} {ns : List Int} {Q : VK} (I : Inv X pins σ H s) (hh : SqT X.K H a (ns.map V.int)) (hu : X.A.units + 65 < cLine)
    (q : ∀ (ns' : List Int) p, ns'.Perm ns → ns'.Pairwise (· ≤ ·) → H p = none → Q (.ref p) (upd H p (.lst (ns'.map V.int)))) : wpAny (model X.prog X.w) X.A (call (.builtin "sorted") [.ref a]) (EP X pins σ Q) X.xe s := by
  obtain ⟨its, rv, hl, hz⟩ := I.tuple hh
  have e := ints_each rv
  have er : PySem.W.EachIs (fun v (i : Int) => ∃ as, Reads s.heap v (.int i) as) its ns := e.mono fun v i ⟨t, h⟩ => ⟨_, h ▸ Reads.int i t⟩
  have hlen : ns.length ≤ sizeLine := by rw [List.length_map] at hz; exact hz
  refine sorted_dataT (bs := ns) (enc := PyData.int) hl e er (PySem.W.AllAlike.of fun _ _ => by simp [PySem.W.alike]) (PySem.W.Sortable.others fun b => ⟨by simp, by simp⟩) hlen (fun d hd => by simp [PyData.depth]; omega) fun out ho eo => ?_
  rw [show PySem.W.dataLe false PyData.int = fun a b : Int => decide (a ≤ b) from PySem.W.dataLe_int id] at eo
  have hv := each_ints eo
  obtain ⟨ep, he'⟩ := PyProof.Rows.sortedAll_at s.heap its (List.toArray out)
  have hzl : ((ns.mergeSort fun a b => decide (a ≤ b)).map V.int).length ≤ sizeLine := by rw [hv.length, ho]; exact hlen
  refine ⟨.ref _, upd H (s.heap.objs.size + 1) (.lst _), I.laid (t' := s.toks) (fun _ _ => PyProof.Rows.sortedAll_old) (Nat.le_succ _) ⟨hzl, _, ep, hv, he'⟩, rfl, q _ _ (List.mergeSort_perm _ _) ?_ (I.hok.fresh (Nat.le_succ _))⟩
  have := List.pairwise_mergeSort (le := fun a b : Int => decide (a ≤ b)) (fun a b c h1 h2 => by simp at h1 h2 ⊢; omega) (fun a b => by simp; omega) ns
  exact this.imp fun h => by simpa using h
/-- sorted of a tuple of tuples -/
theorem sortTD_run {a : Addr} {ys : List V} {ds : List D} {Q : VK} (I : Inv X pins σ H s) (sz : Same Z H) (hh : SqT X.K H a ys) (r : Rps X.K Z ys ds) (hs : srtB ds = true) (hu : X.A.units + 65 < cLine)
    (q : ∀ zs p, Rps X.K Z zs (ds.mergeSort (PySem.W.dataLe false id)) → zs.length ≤ sizeLine → H p = none → Q (.ref p) (upd H p (.lst zs))) : wpAny (model X.prog X.w) X.A (call (.builtin "sorted") [.ref a]) (EP X pins σ Q) X.xe s := by
  obtain ⟨its, rv, hl, hz⟩ := I.tuple hh
  obtain ⟨h1, h2, h3, h4⟩ := srtB_parts hs
  have e := each_rv rv r
  have hlen : ds.length = ys.length := r.length.symm
  refine sorted_dataT (bs := ds) (enc := id) (R := RvD X.K Z) hl e (rv_reads I sz e h3) (by rw [List.map_id]; exact h1) (by rw [List.map_id]; exact h2) (by omega) (fun d hd => by have := h4 d hd; show X.A.units + 2 + d.depth < cLine; omega) fun out ho eo => ?_
  obtain ⟨zs, v1, v2⟩ := rv_each eo
  obtain ⟨ep, he'⟩ := PyProof.Rows.sortedAll_at s.heap its (List.toArray out)
  have hzl : zs.length ≤ sizeLine := by rw [v1.length, ho]; omega
  exact ⟨.ref _, upd H (s.heap.objs.size + 1) (.lst zs), I.laid (t' := s.toks) (fun _ _ => PyProof.Rows.sortedAll_old) (Nat.le_succ _) ⟨hzl, _, ep, v1, he'⟩, rfl, q _ _ v2 hzl (I.hok.fresh (Nat.le_succ _))⟩
/-- sorted of a dict's keys, ints: as many as may be -/
theorem call_sortedDIb (hcalm : X.calm = true) : CallR X (.builtin "sorted") (fun xs H Q => ∃ (a : Addr) (kvs : List (Key × V)) (ks : List Int), xs = [.ref a] ∧ Rd H a (.dK kvs) ∧ kvs.map (·.1) = ks.map Sum.inl ∧ ks.length ≤ sizeLine ∧
    ∀ (ys : List Int) (p : Addr), ys.Perm ks → ys.Pairwise (· ≤ ·) → H p = none → Q (.ref p) (upd H p (.lst (ys.map V.int)))) := by
  intro pins s σ H xs us Q I r q
  obtain ⟨a, kvs, ks, ex, hd, hks, h64, q⟩ := q
  subst ex
  obtain ⟨u, eu, rx⟩ := vals1 r
  subst eu
  cases rx
  obtain ⟨z, lo, vs, rel, dd⟩ := L2.dk_rd I.hok hd
  obtain ⟨ep, hat⟩ := dd.dictAt
  have hkeys : vs.map (·.1) = ks.map Sum.inl := rel.keys.symm.trans hks
  have hl : vs.length = ks.length := by
    have e := congrArg List.length hkeys
    rw [List.length_map, List.length_map] at e
    exact e
  have h16 : vs.length ≤ sizeLine := by rw [hl]; exact h64
  refine Calls.call_function_entry PyProof.Rows.kind_sorted PyProof.Rows.plain_sorted PyProof.Rows.entry_sorted (PyProof.Rows.args_sorted1 _) ?_
  unfold Builtin.«sorted»
  refine wpAny_bind (m := checkCount "sorted" 1 1 _) (wpAny_pure ?_)
  refine wpAny_bind (PySem.W.kdu_collect (A := X.A.in1) (PySem.W.kdl_dict (knd := mixKind X.prog X.w) (kvs := vs) (ep := ep) lo) (I.ok.hd hcalm) hat h16 fun h' tk acc hk hacc => ?_)
  have hal : acc.toList.length = ks.length := by rw [Array.length_toList, hacc.1, hl]
  have hS : IntsAre acc.toList ks := L2.ints_each hal fun j v e => by
    obtain ⟨k, x, e1, e2⟩ := hacc.2 j v (by rw [← Array.getElem?_toList]; exact e)
    have e3 : (vs.map (·.1))[j]? = some k := by rw [List.getElem?_map, e1]; rfl
    rw [hkeys, List.getElem?_map] at e3
    cases e4 : ks[j]? with
    | none => rw [e4] at e3; cases e3
    | some y =>
      rw [e4] at e3
      have e5 : Sum.inl y = k := Option.some.inj e3
      subst e5
      rcases keyIs_shape (show keyIs (Sum.inl y) v = true from e2) with ⟨i, t, ek, ev⟩ | ⟨z, t, ek, ev⟩
      · cases ek
        exact ⟨y, t, rfl, ev⟩
      · cases ek
  have I1 : Inv X pins σ H { s with heap := h', toks := tk } := I.kept hk
  refine wpAny_bind (wpAny_newList ?_ (by rw [hal]; exact h64))
  have hoL : (h'.push (seqObj "list" acc.toList.toArray 0)).get? h'.objs.size = some (seqObj "list" acc.toList.toArray 0) := Heap.get?_push_size _ rfl
  show wpAny _ _ _ _ _ { s with heap := h'.push (seqObj "list" acc.toList.toArray 0), toks := tk }
  refine wpAny_bind (wpAny_holding (wpAny_call_entry PyProof.Rows.slot_list_sort ⟨_, hoL, rfl⟩ PyProof.Rows.entry_list_sort
    (PyProof.Rows.list_sort_treeAny (s := { s with heap := h'.push (seqObj "list" acc.toList.toArray 0), toks := tk }) hoL hS (by rw [hal]; exact h64) fun out ys g1 g2 g3 => ⟨_, rfl, ?_⟩) (PyProof.Rows.args_list_sort _)))
  obtain ⟨e', he'⟩ := PyProof.Rows.sortedHeap_at (vs := acc.toList) (out := out) hoL
  have hlen : (ys.map V.int).length ≤ sizeLine := by
    rw [List.length_map, g2.length_eq]
    exact h64
  refine wpAny_pure ⟨_, rfl, .ref h'.objs.size, upd H h'.objs.size (.lst (ys.map V.int)), I1.laid (t' := tk) (fun b u e => ?_) (Nat.le_refl _)
    (show ObjOk X.prog X.w _ _ _ (.lst (ys.map V.int)) from ⟨hlen, out.toList, e', vals_of_ints g1, by rw [Array.toArray_toList]; exact he'⟩), rfl, q ys _ g2 g3 (I1.hok.fresh (Nat.le_refl _))⟩
  have hb : b < h'.objs.size := Heap.lt_size e
  rw [PyProof.Rows.sortedHeap_old (Nat.ne_of_lt hb) (by rw [size_push']; exact Nat.lt_succ_of_lt hb)]
  exact Heap.get?_push_of_some _ e
end
end Bide

set_option autoImplicit false
set_option Elab.async false
set_option maxRecDepth 100000
set_option linter.all false
/-! Operations by values: truth, subscripts, slices, built-in functions. -/
namespace Bide
open PySem L2
theorem insI_perm (x : Int) : ∀ l : List Int, (insI x l).Perm (x :: l)
  | [] => .refl _
  | y :: r => by
    unfold insI
    split
    · exact .refl _
    · exact ((insI_perm x r).cons y).trans (.swap _ _ _)
theorem insI_mem {x z : Int} {l : List Int} (h : z ∈ insI x l) : z = x ∨ z ∈ l := by
  have := (insI_perm x l).mem_iff.mp h
  simpa using this
theorem insI_sorted (x : Int) : ∀ l : List Int, l.Pairwise (· ≤ ·) → (insI x l).Pairwise (· ≤ ·)
  | [], _ => by simp [insI]
  | y :: r, h => by
    unfold insI
    split
    · rename_i hxy
      refine List.pairwise_cons.mpr ⟨fun z hz => ?_, h⟩
      rcases List.mem_cons.mp hz with rfl | hz
      · exact hxy
      · exact Int.le_trans hxy ((List.pairwise_cons.mp h).1 z hz)
    · rename_i hxy
      refine List.pairwise_cons.mpr ⟨fun z hz => ?_, insI_sorted x r (List.pairwise_cons.mp h).2⟩
      rcases insI_mem hz with rfl | hz
      · omega
      · exact (List.pairwise_cons.mp h).1 z hz
theorem sortI_perm : ∀ l : List Int, (sortI l).Perm l
  | [] => .refl _
  | x :: r => (insI_perm x _).trans ((sortI_perm r).cons x)
theorem sortI_sorted : ∀ l : List Int, (sortI l).Pairwise (· ≤ ·)
  | [] => .nil
  | x :: r => insI_sorted x _ (sortI_sorted r)
theorem maxI_spec : ∀ (l : List Int) (m : Int), (maxI m l = m ∨ maxI m l ∈ l) ∧ m ≤ maxI m l ∧ ∀ y ∈ l, y ≤ maxI m l
  | [], m => ⟨.inl rfl, Int.le_refl _, fun _ h => by cases h⟩
  | x :: r, m => by
    unfold maxI
    by_cases hxm : x > m
    · rw [if_pos hxm]
      obtain ⟨h1, h2, h3⟩ := maxI_spec r x
      refine ⟨.inr ?_, by omega, fun y hy => ?_⟩
      · rcases h1 with h1 | h1
        · rw [h1]; simp
        · exact List.mem_cons_of_mem _ h1
      · rcases List.mem_cons.mp hy with rfl | hy
        · exact h2
        · exact h3 y hy
    · rw [if_neg hxm]
      obtain ⟨h1, h2, h3⟩ := maxI_spec r m
      refine ⟨?_, h2, fun y hy => ?_⟩
      · rcases h1 with h1 | h1
        · exact .inl h1
        · exact .inr (List.mem_cons_of_mem _ h1)
      · rcases List.mem_cons.mp hy with rfl | hy
        · omega
        · exact h3 y hy
theorem minI_spec : ∀ (l : List Int) (m : Int), (minI m l = m ∨ minI m l ∈ l) ∧ minI m l ≤ m ∧ ∀ y ∈ l, minI m l ≤ y
  | [], m => ⟨.inl rfl, Int.le_refl _, fun _ h => by cases h⟩
  | x :: r, m => by
    unfold minI
    by_cases hxm : x < m
    · rw [if_pos hxm]
      obtain ⟨h1, h2, h3⟩ := minI_spec r x
      refine ⟨.inr ?_, by omega, fun y hy => ?_⟩
      · rcases h1 with h1 | h1
        · rw [h1]; simp
        · exact List.mem_cons_of_mem _ h1
      · rcases List.mem_cons.mp hy with rfl | hy
        · exact h2
        · exact h3 y hy
    · rw [if_neg hxm]
      obtain ⟨h1, h2, h3⟩ := minI_spec r m
      refine ⟨?_, h2, fun y hy => ?_⟩
      · rcases h1 with h1 | h1
        · exact .inl h1
        · exact .inr (List.mem_cons_of_mem _ h1)
      · rcases List.mem_cons.mp hy with rfl | hy
        · omega
        · exact h3 y hy

section
variable {K : PySem.W.Frag} {Z H Z' H' : Hp} {x : V} {d : D}
theorem truth_of {k : Bool} (s : Same Z H) (h : RdV K Z H x d) (e : truth d = some k) : TruV K x H k := by
  cases d with
  | none => cases h.none; cases e; exact rfl
  | bool b => cases h.bool; cases e; exact rfl
  | int i => cases h.int; cases e; exact rfl
  | str y =>
    cases h.str
    simp only [truth] at e
    split at e <;> cases e
    rename_i hl
    exact ⟨by rw [← line_eq]; exact hl, rfl⟩
  | list ds =>
    obtain ⟨a, xs, rfl, h1, _, h3⟩ := h.list s
    cases e
    refine .inl ⟨xs, .inl (.inl h1), ?_⟩
    cases h3 <;> rfl
  | tuple ds =>
    obtain ⟨a, xs, rfl, h1, _, h3⟩ := h.tuple s
    cases e
    refine .inr (.inl ⟨xs, .inl (.inl h1), ?_⟩)
    cases h3 <;> rfl
  | dict kvs => cases e
theorem atD_atI {α : Type} (xs : List α) (i : Int) : atD xs i = atI xs i := by
  unfold atD atI ixN
  split
  · rename_i h
    split
    · rfl
    · rename_i h'
      rw [List.getElem?_eq_none (by omega)]
      rfl
  · rename_i h
    by_cases h' : 0 ≤ i + (xs.length : Int)
    · rw [if_pos h', if_pos (by omega)]; rfl
    · rw [if_neg h', if_neg (by omega)]; rfl
theorem Rps.atD {xs : List V} {ds : List D} {i : Int} {y : D} (r : Rps K Z xs ds) (e : Bide.atD ds i = some y) : ∃ v, atI xs i = some v ∧ Rp K Z v y := by
  rw [← atD_atI]
  unfold Bide.atD at e ⊢
  rw [r.length]
  split at e
  · rename_i h
    rw [if_pos h]; exact r.getD e
  · rename_i h
    rw [if_neg h]
    split at e
    · rename_i h'
      rw [if_pos h']; exact r.getD e
    · cases e
theorem Rps.cut {xs : List V} {ds : List D} (lo hi : Option Int) (r : Rps K Z xs ds) : Rps K Z (cutV xs lo hi) (cutL ds lo hi) := by
  unfold cutV cutL
  rw [r.length]
  exact (r.drop _).take _
theorem cutN_sIx (n d : Nat) (o : Option Int) : cutN n d o = HT.sIx n d o := by
  cases o <;> rfl
theorem RpK.length : ∀ {ks : List (Key × V)} {kvs : List (D × D)}, RpK K Z ks kvs → ks.length = kvs.length
  | _, _, .nil => rfl
  | _, _, .cons _ r => by simp [RpK.length r]
theorem RpT.length : ∀ {ks : List (List Key × V)} {kvs : List (D × D)}, RpT K Z ks kvs → ks.length = kvs.length
  | _, _, .nil => rfl
  | _, _, .cons _ _ r => by simp [RpT.length r]
end
def RdVs (K : PySem.W.Frag) (Z H : Hp) : List V → List D → Prop
  | [], [] => True
  | x :: xs, d :: ds => RdV K Z H x d ∧ RdVs K Z H xs ds
  | _, _ => False
def Blt.py : Blt → Value
  | .len => .builtin "len"
  | .abs => .builtin "abs"
  | .int => .type "int"
  | .sum => .builtin "sum"
  | .all => .builtin "all"
  | .any => .builtin "any"
  | .max1 => .builtin "max"
  | .min1 => .builtin "min"
  | .max2 => .builtin "max"
  | .min2 => .builtin "min"
  | .tuple => .type "tuple"
  | .list => .type "list"
  | .sorted => .builtin "sorted"
def bOf (K : PySem.W.Frag) (g : List D → Option RV) : List V → Hp → VK → Prop := fun xs H Q => ∃ Z ds r, Same Z H ∧ RdVs K Z H xs ds ∧ g ds = some r ∧ Give K Z H r Q
section
variable {X : Cx}
theorem rdv1 {K : PySem.W.Frag} {Z H : Hp} {xs : List V} {d : D} (h : RdVs K Z H xs [d]) : ∃ x, xs = [x] ∧ RdV K Z H x d := by
  match xs, h with
  | [x], h => exact ⟨x, rfl, h.1⟩
theorem rdv2 {K : PySem.W.Frag} {Z H : Hp} {xs : List V} {d e : D} (h : RdVs K Z H xs [d, e]) : ∃ x y, xs = [x, y] ∧ RdV K Z H x d ∧ RdV K Z H y e := by
  match xs, h with
  | [x, y], h => exact ⟨x, y, rfl, h.1, h.2.1⟩
theorem len_ok : CallR X (.builtin "len") (bOf X.K (blt .len)) := by
  intro pins s σ H xs us Q I rx h
  obtain ⟨Z, ds, r, sz, hx, hb, g⟩ := h
  unfold blt at hb
  split at hb <;> (first | (rename_i e; cases e; done) | skip)
  · split at hb <;> cases hb
    rename_i n hn
    obtain ⟨x, rfl, hv⟩ := rdv1 hx
    unfold lenOf at hn
    split at hn
    · cases hn
      obtain ⟨a, ys, rfl, h1, h2, h3⟩ := hv.list sz
      exact call_len pins s σ H _ us Q I rx ⟨_, _, rfl, .inl ⟨ys, .inl (.inl h1), h3.length.symm⟩, g.v sz (.int _)⟩
    · cases hn
      obtain ⟨a, ys, rfl, h1, h2, h3⟩ := hv.tuple sz
      exact call_len pins s σ H _ us Q I rx ⟨_, _, rfl, .inr ⟨ys, .inl (.inl h1), h3.length.symm⟩, g.v sz (.int _)⟩
    · split at hn <;> cases hn
      rename_i hl
      cases hv.str
      exact call_len pins s σ H _ us Q I rx ⟨_, _, rfl, ⟨by rw [← line_eq]; exact hl, rfl⟩, g.v sz (.int _)⟩
    · cases hn
      rename_i t kvs
      cases t with
      | false =>
        obtain ⟨a, ks, rfl, h1, h2, h3⟩ := hv.dict sz
        obtain ⟨u, rfl, ru⟩ := vals1 rx
        cases ru
        exact d_len I h1 fun t s' I' => ⟨.int ks.length, H, I', ⟨t, rfl⟩, by rw [h3.length]; exact g.v sz (.int _)⟩
      | true =>
        obtain ⟨a, ks, rfl, h1, h2, h3⟩ := hv.dictT sz
        obtain ⟨u, rfl, ru⟩ := vals1 rx
        obtain rfl : u = .ref a := ru
        obtain ⟨z, hd, ys, rel, dd⟩ := dt_rd I.hok h1
        have hl : ks.length = ys.length := Paired.length rel
        refine call_len_dictH hd dd (by rw [← hl]; rw [sizeLine_eq] at z; omega) ?_
        rw [← hl]
        exact ⟨.int ((ks.length : Nat) : Int), H, I.tok _, ⟨_, rfl⟩, by rw [h3.length]; exact g.v sz (.int _)⟩
    · cases hn
  · cases hb
theorem rpK_ints {K : PySem.W.Frag} {Z : Hp} : ∀ {ks : List (Key × V)} {kvs : List (D × D)} {n : List Int}, RpK K Z ks kvs → intsL (kvs.map (·.1)) = some n → ks.map (·.1) = n.map Sum.inl
  | _, _, n, .nil, e => by
    simp [intsL] at e
    subst e; rfl
  | _, _, n, .cons (k := k) h r, e => by
    cases k with
    | inl i =>
      simp only [List.map_cons, keyD, intsL, Option.map_eq_some_iff] at e
      obtain ⟨m, e1, rfl⟩ := e
      simp only [List.map_cons, rpK_ints r e1]
    | inr x => simp [keyD,intsL] at e
theorem list_ok : CallR X (.type "list") (bOf X.K (blt .list)) := by
  intro pins s σ H xs us Q I rx h
  obtain ⟨Z, ds, r, sz, hx, hb, g⟩ := h
  unfold blt at hb
  split at hb <;> (first | (rename_i e; cases e; done) | skip)
  · cases hb
    obtain ⟨x, rfl, hv⟩ := rdv1 hx
    obtain ⟨a, ys, rfl, h1, h2, h3⟩ := hv.list sz
    exact call_list_of pins s σ H _ us Q I rx ⟨_, ys, rfl, .inl (.inl (.inl h1)), fun l hl => g.lst sz h2 h3 hl⟩
  · cases hb
    obtain ⟨x, rfl, hv⟩ := rdv1 hx
    rcases hv with hv | ⟨a, ea, ⟨_, _, e, _⟩ | ⟨_, ks, e, q1, q2, q3⟩ | ⟨_, _, e, _⟩⟩
    · cases hv with
      | scr h1 h2 h3 => exact call_list_of pins s σ H _ us Q I rx ⟨_, _, rfl, .inl (sqL_same sz h1), fun l hl => g.lst sz h2 h3 hl⟩
    all_goals cases e
  · cases hb
    obtain ⟨x, rfl, hv⟩ := rdv1 hx
    obtain ⟨a, ys, rfl, h1, h2, h3⟩ := hv.tuple sz
    exact call_list_of pins s σ H _ us Q I rx ⟨_, ys, rfl, .inr (.inl (.inl h1)), fun l hl => g.lst sz h2 h3 hl⟩
  · cases hb
theorem alike_intsB (ns : List Int) : PySem.W.AlikeAll (ns.map .int) := ⟨fun x hx y hy => by
  obtain ⟨a, _, rfl⟩ := List.mem_map.mp hx
  obtain ⟨b, _, rfl⟩ := List.mem_map.mp hy
  rfl, fun x hx => by
  obtain ⟨a, _, rfl⟩ := List.mem_map.mp hx
  exact nofun⟩
theorem depth_intsB (ns : List Int) : PyData.depthAll (ns.map .int) = 0 := PySem.W.depth_ints ns
theorem foldl_max : ∀ (ns : List Int) (n : Int), ns.foldl max n = maxI n ns
  | [], n => rfl
  | x :: r, n => by
    rw [List.foldl_cons, foldl_max r]
    show maxI (max n x) r = maxI (if x > n then x else n) r
    congr 1
    split <;> omega
theorem foldl_min : ∀ (ns : List Int) (n : Int), ns.foldl min n = minI n ns
  | [], n => rfl
  | x :: r, n => by
    rw [List.foldl_cons, foldl_min r]
    show minI (min n x) r = minI (if x < n then x else n) r
    congr 1
    split <;> omega
theorem blt_ok (hc : X.calm = true) (hu : X.A.units + 65 < cLine) (b : Blt) : CallR X b.py (bOf X.K (blt b)) := by
  cases b
  case len => exact len_ok
  case list => exact list_ok
  all_goals
    intro pins s σ H xs us Q I rx h
    obtain ⟨Z, ds, r, sz, hx, hb, g⟩ := h
    unfold blt at hb
    split at hb <;> (first | (rename_i e; cases e; done) | (cases hb; done) | skip)
  case h_2 =>
    cases hb
    obtain ⟨x, rfl, hv⟩ := rdv1 hx
    cases hv.int
    exact call_abs pins s σ H _ us Q I rx ⟨_, rfl, g.v sz (.int _)⟩
  case h_3 =>
    cases hb
    obtain ⟨x, rfl, hv⟩ := rdv1 hx
    cases hv.int
    exact call_int1 pins s σ H _ us Q I rx (.inl ⟨_, rfl, g.v sz (.int _)⟩)
  case h_4 =>
    cases hb
    obtain ⟨x, rfl, hv⟩ := rdv1 hx
    cases hv.bool
    exact call_int1 pins s σ H _ us Q I rx (.inr ⟨_, rfl, g.v sz (.int _)⟩)
  case h_5 =>
    obtain ⟨n, hn, rfl⟩ := Option.map_eq_some_iff.mp hb
    obtain ⟨x, rfl, hv⟩ := rdv1 hx
    obtain ⟨a, ys, rfl, h1, h2, h3⟩ := hv.list sz
    cases h3.ints hn
    exact cr_sum hc pins s σ H _ us Q I rx ⟨a, n, rfl, .inl (.inl h1), g.v sz (.int _)⟩
  case h_6 =>
    obtain ⟨n, hn, rfl⟩ := Option.map_eq_some_iff.mp hb
    obtain ⟨x, rfl, hv⟩ := rdv1 hx
    obtain ⟨a, ys, rfl, h1, h2, h3⟩ := hv.list sz
    cases h3.bls hn
    exact cr_all hc pins s σ H _ us Q I rx ⟨a, n, rfl, .inl (.inl h1), g.v sz (.bl _)⟩
  case h_7 =>
    obtain ⟨n, hn, rfl⟩ := Option.map_eq_some_iff.mp hb
    obtain ⟨x, rfl, hv⟩ := rdv1 hx
    obtain ⟨a, ys, rfl, h1, h2, h3⟩ := hv.list sz
    cases h3.bls hn
    exact cr_any hc pins s σ H _ us Q I rx ⟨a, n, rfl, .inl (.inl h1), g.v sz (.bl _)⟩
  case h_8 =>
    split at hb <;> cases hb
    rename_i n ns hn
    obtain ⟨x, rfl, hv⟩ := rdv1 hx
    obtain ⟨a, ys, rfl, h1, h2, h3⟩ := hv.list sz
    cases h3.ints hn
    refine cr_max hc pins s σ H _ us Q I rx ⟨a, n :: ns, rfl, .inl (.inl h1), by simp, fun m hm hy => ?_⟩
    obtain ⟨q1, q2, q3⟩ := maxI_spec ns n
    have e : m = maxI n ns := by
      refine Int.le_antisymm ?_ (hy _ ?_)
      · rcases List.mem_cons.mp hm with rfl | hm
        · exact q2
        · exact q3 m hm
      · rcases q1 with q1 | q1
        · rw [q1]; simp
        · exact List.mem_cons_of_mem _ q1
    rw [e]; exact g.v sz (.int _)
  case h_9 =>
    split at hb <;> cases hb
    rename_i n ns hn
    obtain ⟨x, rfl, hv⟩ := rdv1 hx
    obtain ⟨a, ys, rfl, h1, h2, h3⟩ := hv.list sz
    cases h3.ints hn
    refine cr_min hc pins s σ H _ us Q I rx ⟨a, n :: ns, rfl, .inl (.inl h1), by simp, fun m hm hy => ?_⟩
    obtain ⟨q1, q2, q3⟩ := minI_spec ns n
    have e : m = minI n ns := by
      refine Int.le_antisymm (hy _ ?_) ?_
      · rcases q1 with q1 | q1
        · rw [q1]; simp
        · exact List.mem_cons_of_mem _ q1
      · rcases List.mem_cons.mp hm with rfl | hm
        · exact q2
        · exact q3 m hm
    rw [e]; exact g.v sz (.int _)
  case h_10 =>
    split at hb <;> cases hb
    rename_i n ns hn
    obtain ⟨x, rfl, hv⟩ := rdv1 hx
    obtain ⟨a, ys, rfl, h1, h2, h3⟩ := hv.tuple sz
    cases h3.ints hn
    obtain ⟨u, rfl, ru⟩ := vals1 rx
    cases ru
    obtain ⟨its, rv, ht, hz⟩ := I.tuple (.inl (.inl h1))
    refine PySem.W.max_tuple_data (x := .int n) (xs := ns.map .int) (I.ok.hd hc) ht (rv.ints.reads s.heap) (alike_intsB (n :: ns)) (by have e := depth_intsB (n :: ns); rw [List.map_cons] at e; rw [e]; omega) fun i v h' tk bs hi r hk => ?_
    rw [PySem.W.maxD_ints, foldl_max] at r
    cases r
    exact ⟨.int _, H, I.kept hk, ⟨_, rfl⟩, g.v sz (.int _)⟩
  case h_11 =>
    split at hb <;> cases hb
    rename_i n ns hn
    obtain ⟨x, rfl, hv⟩ := rdv1 hx
    obtain ⟨a, ys, rfl, h1, h2, h3⟩ := hv.tuple sz
    cases h3.ints hn
    obtain ⟨u, rfl, ru⟩ := vals1 rx
    cases ru
    obtain ⟨its, rv, ht, hz⟩ := I.tuple (.inl (.inl h1))
    refine PySem.W.min_tuple_data (x := .int n) (xs := ns.map .int) (I.ok.hd hc) ht (rv.ints.reads s.heap) (alike_intsB (n :: ns)) (by have e := depth_intsB (n :: ns); rw [List.map_cons] at e; rw [e]; omega) fun i v h' tk bs hi r hk => ?_
    rw [PySem.W.minD_ints, foldl_min] at r
    cases r
    exact ⟨.int _, H, I.kept hk, ⟨_, rfl⟩, g.v sz (.int _)⟩
  case h_12 =>
    cases hb
    obtain ⟨x, y, rfl, hv, hw⟩ := rdv2 hx
    cases hv.int; cases hw.int
    exact call_max2 hc pins s σ H _ us Q I rx ⟨_, _, rfl, g.v sz (.int _)⟩
  case h_13 =>
    cases hb
    obtain ⟨x, y, rfl, hv, hw⟩ := rdv2 hx
    cases hv.int; cases hw.int
    exact call_min2 hc pins s σ H _ us Q I rx ⟨_, _, rfl, g.v sz (.int _)⟩
  case h_14 =>
    cases hb
    obtain ⟨x, rfl, hv⟩ := rdv1 hx
    obtain ⟨a, ys, rfl, h1, h2, h3⟩ := hv.list sz
    exact call_tuple_of pins s σ H _ us Q I rx ⟨_, ys, rfl, .inl ⟨.inl (.inl h1), fun l hl => g.tup sz h2 h3 hl⟩⟩
  case h_15 =>
    cases hb
    obtain ⟨x, rfl, hv⟩ := rdv1 hx
    obtain ⟨a, ys, rfl, h1, h2, h3⟩ := hv.tuple sz
    refine call_tuple_of pins s σ H _ us Q I rx ⟨_, ys, rfl, .inr ⟨.inl (.inl h1), ?_⟩⟩
    rcases hv with hv | ⟨_, _, ⟨_, _, e, _⟩ | ⟨_, _, e, _⟩ | ⟨_, _, e, _⟩⟩
    · exact g.v sz hv
    all_goals cases e
  case h_19 =>
    obtain ⟨x, rfl, hv⟩ := rdv1 hx
    obtain ⟨a, ys, rfl, h1, h2, h3⟩ := hv.list sz
    split at hb
    · rename_i n hn
      cases hb
      cases h3.ints hn
      refine cr_sortedI pins s σ H _ us Q I rx ⟨a, n, rfl, .inl (.inl h1), fun ns' p hp hs hf => ?_⟩
      have e : ns' = sortI n := PySem.W.ksm_same (hp.trans (sortI_perm n).symm) hs (sortI_sorted n)
      rw [e]
      refine g.lst sz ?_ (Rps.ofInts _) hf
      rw [List.length_map, (sortI_perm n).length_eq, ← List.length_map (f := V.int)]
      exact h2
    · split at hb
      · rename_i hs
        cases hb
        obtain rfl := Vals.ref1 rx
        exact sortD_run I sz (.inl (.inl h1)) h3 hs hu fun zs p r hz hf => g.lst sz hz r hf
      · cases hb
  case h_20 =>
    obtain ⟨x, rfl, hv⟩ := rdv1 hx
    obtain ⟨a, ys, rfl, h1, h2, h3⟩ := hv.tuple sz
    obtain rfl := Vals.ref1 rx
    split at hb
    · rename_i n hn
      cases hb
      cases h3.ints hn
      refine sortT_run I (.inl (.inl h1)) hu fun ns' p hp hs hf => ?_
      have e : ns' = sortI n := PySem.W.ksm_same (hp.trans (sortI_perm n).symm) hs (sortI_sorted n)
      rw [e]
      refine g.lst sz ?_ (Rps.ofInts _) hf
      rw [List.length_map, (sortI_perm n).length_eq, ← List.length_map (f := V.int)]
      exact h2
    · split at hb
      · rename_i hs
        cases hb
        exact sortTD_run I sz (.inl (.inl h1)) h3 hs hu fun zs p r hz hf => g.lst sz hz r hf
      · cases hb
  case h_21 =>
    obtain ⟨x, rfl, hv⟩ := rdv1 hx
    split at hb
    · rename_i n hn
      split at hb
      · rename_i hl
        cases hb
        obtain ⟨a, ks, rfl, h1, h2, h3⟩ := hv.dict sz
        have ek := rpK_ints h3 hn
        refine call_sortedDIb hc pins s σ H _ us Q I rx ⟨a, ks, n, rfl, h1, ek, hl, fun ns' p hp hs hf => ?_⟩
        have e : ns' = sortI n := PySem.W.ksm_same (hp.trans (sortI_perm n).symm) hs (sortI_sorted n)
        rw [e]
        refine g.lst sz ?_ (Rps.ofInts _) hf
        rw [List.length_map, (sortI_perm n).length_eq]
        exact hl
      · cases hb
    · cases hb
end
end Bide

set_option autoImplicit false
set_option Elab.async false
set_option maxRecDepth 100000
set_option linter.all false
/-! What a loop walks: a list or a tuple, enumerate of these, zip, range. -/
namespace PySem
open Sem (wp)
set_option maxHeartbeats 1000000 in
theorem bide_newEnum {v : Value} {o : Obj} {H : Heap → Prop} (B : Begins v o H) :
    Meets (Builtin.«enumerate.__new__» ⟨[.type "enumerate", v], []⟩) (fun _ R s => H s.heap ∧
      R (.ok (.ret (.ref (s.heap.push o).objs.size)))
        { s with heap := (s.heap.push o).push { cls := .type "enumerate", data := .fields #[.none, .bool false, .ref s.heap.objs.size, rawInt 0, .none, .none] } }) :=
  .of_wp fun prog w A R s h => by
    obtain ⟨hp, g, d, tk, os⟩ := s
    obtain ⟨hB, hR⟩ := h
    have hsub := sub_enumerate
    have step : ∀ {A' : Around} {E : Value → Shared → Prop} {Q : Value → Shared → Prop}, Q (.ref hp.objs.size) ⟨hp.push o, g, d, tk, os⟩ →
        wpAny (model prog w) A' (pyIter v) Q E ⟨hp, g, d, tk, os⟩ := fun q => B.iter prog w _ _ ⟨hp, g, d, tk, os⟩ _ hB q
    wp_walk using step
    refine wpAny_stack_any fun st => wpAny_pure ?_
    split
    · rename_i c _ _ _ _ _
      cases (c == Value.type "enumerate") <;> (wp_walk using step; exact ⟨_, rfl, hR⟩)
    · wp_walk using step
      exact ⟨_, rfl, hR⟩
theorem bide_callEnum {prog : Program} {w : World} {A : Around} {E : Value → Shared → Prop} {s : Shared} {v : Value} {o : Obj} {H : Heap → Prop} {Q : Value → Shared → Prop} (B : Begins v o H) (hB : H s.heap)
    (h : ∀ h', IsEnum h' (s.heap.objs.size + 1) s.heap.objs.size 0 .none → h'.get? s.heap.objs.size = some o → (∀ b u, s.heap.get? b = some u → h'.get? b = some u) →
      Q (.ref (s.heap.objs.size + 1)) { s with heap := h' }) : wpAny (model prog w) A (call (.type "enumerate") [v]) Q E s := by
  refine callType_new F.called_enumerate (by decide) (F.typeCall_enumerate_1 _) (F.newCall_enumerate_1 _) (fun obj => F.args_object_init_2 obj _) F.entry_enumerate_new (bide_newEnum B) ⟨hB, ?_⟩
  have hz : (s.heap.push o).objs.size = s.heap.objs.size + 1 := Heap.size_push ..
  show _ ∧ _
  rw [hz]
  have he := Heap.get?_push_size (s.heap.push o) (o := { cls := .type "enumerate", data := .fields #[.none, .bool false, .ref s.heap.objs.size, rawInt 0, .none, .none] }) rfl
  rw [hz] at he
  exact ⟨⟨_, he, rfl⟩, h _ he (Heap.get?_push_of_some _ (Heap.get?_push_size _ B.free)) fun b u x => Heap.get?_push_of_some _ (Heap.get?_push_of_some _ x)⟩
end PySem
namespace Bide
open PySem L2 PyProof.Rows
/-- a list or a tuple -/
def iSeq (K : PySem.W.Frag) (tl : TE) : TI := fun σ H R => tl σ H fun x H1 => ∃ a, x = .ref a ∧ (((∃ xs, SqL K H1 a xs) ∧ R (Itl K a) H1) ∨ ((∃ xs, SqT K H1 a xs) ∧ R (Itt K a) H1))
section
variable {X : Cx} {tg : Expr}
theorem pi_seq {l : Expr} {tl : TE} (hl : PE X l tl) : PI X tg l (iSeq X.K tl) := by
  constructor
  intro pins s σ H R I h
  refine thn (hl.run pins s σ H _ I h) fun v s1 ⟨x, H1, I1, r1, a, ex, q⟩ => ?_
  subst ex
  obtain rfl : v = Value.ref a := r1
  have old : ∀ b ∈ [s1.heap.objs.size], FpOk X pins H1 b := fun b hb => by
    cases List.mem_singleton.mp hb
    exact I1.fpOk (Nat.le_refl _) (I1.hok.fresh (Nat.le_refl _))
  rcases q with ⟨⟨xs, hq⟩, q⟩ | ⟨⟨xs, hq⟩, q⟩
  · obtain ⟨its, _, p, _⟩ := I1.list hq
    exact wpAny_pyIter_list p.isList ⟨_, [s1.heap.objs.size], _, _, H1, rfl, I1.kept (t' := s1.toks) fun b o e => Heap.get?_push_of_some _ e, turn_list a _, ⟨_, Heap.get?_push_size _ rfl, rfl, rfl⟩, old, q⟩
  · obtain ⟨its, _, p, _⟩ := I1.tuple hq
    exact wpAny_pyIter_tuple (show s1.heap.IsTuple a its.toArray from p) ⟨_, [s1.heap.objs.size], _, _, H1, rfl, I1.kept (t' := s1.toks) fun b o e => Heap.get?_push_of_some _ e, turn_tuple a _, ⟨_, Heap.get?_push_size _ rfl, rfl, rfl⟩, old, q⟩
end
/-- enumerate(tuple) -/
def IteT (K : PySem.W.Frag) (a : Addr) (n : Nat) : L2.It where
  go := fun i H => ∃ xs x, SqT K H a xs ∧ xs.length = n ∧ xs[i]? = some x
  yld := fun i H v H' => ∃ t x, v = .ref t ∧ H t = none ∧ H' = upd H t (.tup [.int (i : Nat), x]) ∧ ∀ xs, SqT K H a xs → xs[i]? = some x
  stop := fun i H => ∃ xs, SqT K H a xs ∧ xs.length = n ∧ n ≤ i
theorem tup_ne {h : Heap} {a b : Addr} {items : Array Value} {u : Obj} (p : IsTup h a items) (e : h.get? b = some u) (c : u.cls ≠ .type "tuple") : a ≠ b := by
  rintro rfl
  obtain ⟨o, e1, e2, _⟩ := p
  rw [e] at e1
  cases e1
  exact c e2
theorem turn_enumT {P : Program} {w : World} {K : PySem.W.Frag} {elts : List Expr} {kk : Nat} {tpos : Pos} (a : Addr) (n : Nat) (e it : Addr) :
    Turn P w K (.Tuple elts kk tpos) (IteT K a n) [e, it] e (fun i h => (∃ old, IsEnum h e it ((i : Nat) : Int) old) ∧ h.IsTupleIter it a i ∧ e ≠ it ∧ i ≤ n) where
  mem := List.mem_cons_self
  obj := by
    rintro i h ⟨⟨old, he⟩, ⟨o, ho, hc, hd⟩, _, _⟩ b hb
    rcases List.mem_cons.mp hb with rfl | hb
    · exact ⟨_, he, fun v q => nomatch q⟩
    · cases List.mem_singleton.mp hb
      exact ⟨o, ho, fun v q => by rw [hd] at q; cases q⟩
  keep := by
    rintro i h h' ⟨⟨old, he⟩, hi, hne, hin⟩ k
    exact ⟨⟨old, k e (by simp) _ he⟩, hi.at fun o q => k it (by simp) o q, hne, hin⟩
  item := by
    intro X hP hw hK hc i pins s σ H E I hf st hg
    subst hP hw hK
    obtain ⟨⟨old, he⟩, hit, hne, hin⟩ := st
    obtain ⟨xs, x, hq, hn, hx⟩ := hg
    obtain ⟨its, rv, p, hz⟩ := I.tuple hq
    obtain ⟨u, hu, ru⟩ := rv.get hx
    have hel : e < s.heap.objs.size := Heap.lt_size he
    have hil : it < s.heap.objs.size := by obtain ⟨_, q, _⟩ := hit; exact Heap.lt_size q
    have hae : a ≠ e := tup_ne p he (fun z => by injection z with z; exact absurd z (by decide))
    have hai : a ≠ it := by obtain ⟨o, ho, hc', _⟩ := id hit; exact tup_ne p ho (by rw [hc']; intro z; injection z with z; exact absurd z (by decide))
    have hlt : i < its.toArray.size := by
      have := (List.getElem?_eq_some_iff.mp hu).1
      simpa using this
    have D := Draws.tuple (prog := X.prog) (w := X.w) (A := X.A.in1) (I.ok.hd hc) it a hai its.toArray
    refine wpAny_pyNext_enum_itemD D he ⟨hit, p⟩ hlt hne (by simp [hne,Ne.symm hae]) fun x' h' tk hx' ho st' hT hsz hk => ?_
    have ex : x' = u := by
      have : its.toArray[i]? = some u := by simpa using hu
      rw [this] at hx'
      exact (Option.some.inj hx').symm
    subst ex
    refine ⟨_, rfl, wpAny_letOwnedTupleGo_enum (s := { s with heap := h', toks := tk + 1 }) ho fun h'' he' sb => ?_⟩
    have hT2 : h''.get? s.heap.objs.size = some { cls := .type "tuple", data := .seq #[.int i tk, x'] } := (sb.2 _ (Nat.ne_of_gt hel)).trans hT
    have new : ObjOk X.prog X.w (upd H s.heap.objs.size (.tup [.int (i : Nat), x])) h'' s.heap.objs.size (.tup [.int (i : Nat), x]) :=
      ⟨by show 2 ≤ sizeLine; decide, [.int i tk, x'], .cons ⟨_, rfl⟩ (.cons ru .nil), ⟨_, hT2, rfl, _, rfl⟩⟩
    have I1 : Inv X pins σ (upd H s.heap.objs.size (.tup [.int (i : Nat), x])) { s with heap := h'', toks := tk + 1 } :=
      I.turnedNew (ch := [e, it]) (fun b ob hb q => (sb.2 b (fun z => hb (by simp [z]))).trans (hk b ob (fun z => hb (by simp [z])) (fun z => hb (by simp [z])) q)) hf (Nat.le_refl _) new
    refine ⟨.ref s.heap.objs.size, _, I1, rfl, ⟨_, x, rfl, I.hok.fresh (Nat.le_refl _), rfl, fun ys hy => ?_⟩, ⟨⟨x', ?_⟩, st'.1.at fun o q => (sb.2 it (Ne.symm hne)).trans q, hne, by rw [← hn]; exact (List.getElem?_eq_some_iff.mp hx).1⟩, fun b hb => ?_⟩
    · have : ys = xs := I.tuple_inj hy hq
      rw [this]; exact hx
    · rw [show ((i + 1 : Nat) : Int) = (i : Int) + 1 by omega]
      exact he'
    · have hb' : b < s.heap.objs.size := by
        rcases List.mem_cons.mp hb with rfl | hb
        · exact hel
        · cases List.mem_singleton.mp hb; exact hil
      rw [upd_ne (Nat.ne_of_lt hb')]
      exact (hf b hb).1
  done := by
    intro X hP hw hK hc i pins s σ H E I hf st hg
    subst hP hw hK
    obtain ⟨⟨old, he⟩, hit, hne, hin⟩ := st
    obtain ⟨xs, hq, hn, hx⟩ := hg
    obtain ⟨its, rv, p, hz⟩ := I.tuple hq
    obtain ⟨f0, f1, f2, f3, f4, f5⟩ := hf it (by simp)
    have hai : a ≠ it := by obtain ⟨o, ho, hc', _⟩ := id hit; exact tup_ne p ho (by rw [hc']; intro z; injection z with z; exact absurd z (by decide))
    have D := Draws.tuple (prog := X.prog) (w := X.w) (A := X.A.in1) (I.ok.hd hc) it a hai its.toArray
    have ei : i = its.toArray.size := by rw [List.size_toArray, ← rv.length]; omega
    rw [ei] at hit
    exact wpAny_pyNext_enum_endD D he ⟨hit, p⟩ fun h' eb => ⟨rfl, I.turned (t' := s.toks) (fun b o hb q => eb b o hb q) f0 f1 f3 f4 f5⟩
  self := fun A i s Q E st h => let ⟨⟨_, he⟩, _⟩ := st; wpAny_pyIter_enum he h
/-- enumerate of a list or a tuple -/
def iEnumA (K : PySem.W.Frag) (ta : TA) : TI := fun σ H R => ta σ H fun vs H1 => ∃ a, vs = [.ref a] ∧ (((∃ xs, SqL K H1 a xs) ∧ R (Ite K a) H1) ∨ (∃ xs, SqT K H1 a xs ∧ R (IteT K a xs.length) H1))
theorem pi_enumA {X : Cx} {e : Expr} {ta : TA} {p pos tpos : Pos} {elts : List Expr} {kk : Nat} (hg : Gl X "enumerate") (hm : X.mg "enumerate" = none) (ha : PA X [e] ta) (hs : starEach [e] X.env = [(false, eval e X.env)]) :
    PI X (.Tuple elts kk tpos) (.Call (.Name "enumerate" p) [e] [] pos) (iEnumA X.K ta) := by
  constructor
  intro pins s σ H R I h
  refine Call_ (ld_blt I hg hm boot_enumerate (PyProof.Rows.callWith_type1 (thn (ha.run pos pins s σ H _ I h) fun us s1 ⟨vs, H1, I1, r1, a, ex, q⟩ => ?_) hs rfl))
  subst ex
  have eu := Vals.ref1 r1
  subst eu
  have old : ∀ b ∈ [s1.heap.objs.size + 1, s1.heap.objs.size], FpOk X pins H1 b := fun b hb => by
    have hle : s1.heap.objs.size ≤ b := by
      rcases List.mem_cons.mp hb with rfl | hb
      · exact Nat.le_add_right _ _
      · cases List.mem_singleton.mp hb; exact Nat.le_refl _
    exact I1.fpOk hle (I1.hok.fresh hle)
  rcases q with ⟨⟨xs, hq⟩, q⟩ | ⟨xs, hq, q⟩
  · obtain ⟨its, _, p', _⟩ := I1.list hq
    refine call_enumerate_list p'.isList fun h' he hit _ hk => wpAny_pyIter_enum he ?_
    exact ⟨_, _, _, _, H1, rfl, I1.kept (t' := s1.toks) hk, turn_enum a (s1.heap.objs.size + 1) s1.heap.objs.size, ⟨⟨.none, he⟩, hit, Nat.succ_ne_self _⟩, old, q⟩
  · obtain ⟨its, _, p', _⟩ := I1.tuple hq
    refine bide_callEnum (begins_tuple a its.toArray) p' fun h' he hit hk => wpAny_pyIter_enum he ?_
    exact ⟨_, _, _, _, H1, rfl, I1.kept (t' := s1.toks) hk, turn_enumT a xs.length (s1.heap.objs.size + 1) s1.heap.objs.size, ⟨⟨.none, he⟩, ⟨_, hit, rfl, rfl⟩, Nat.succ_ne_self _, Nat.zero_le _⟩, old, q⟩

/-! ### the walks, as data -/
/-- J gives the data ds, whatever grows meanwhile -/
def WalkOk (K : PySem.W.Frag) (J : L2.It) (Z0 : Hp) (ds : List D) : Prop := ds.length ≤ sizeLine ∧ ∃ (G : Hp → Prop) (Y : Nat → Hp → V → Hp → Prop), Walk J ds.length G Y ∧ (∀ Z H, Same Z0 Z → Same Z H → G H) ∧
  ∀ i H x H' Z, i < ds.length → Y i H x H' → Same Z0 Z → Same Z H → ∃ Z' d, ds[i]? = some d ∧ Grow Z H Z' H' ∧ Rp K Z' x d
/-- a walk over what is held, too -/
def WalkOkF (K : PySem.W.Frag) (J : L2.It) (Z0 F : Hp) (ds : List D) : Prop := ds.length ≤ sizeLine ∧ ∃ (G : Hp → Prop) (Y : Nat → Hp → V → Hp → Prop), Walk J ds.length G Y ∧ (∀ Z H, Same Z0 Z → Same Z H → Same F H → G H) ∧
  ∀ i H x H' Z, i < ds.length → Y i H x H' → Same Z0 Z → Same Z H → Same F H → ∃ Z' d, ds[i]? = some d ∧ Grow Z H Z' H' ∧ Rp K Z' x d
theorem WalkOk.f {K : PySem.W.Frag} {J : L2.It} {Z0 : Hp} {ds : List D} (h : WalkOk K J Z0 ds) (F : Hp) : WalkOkF K J Z0 F ds := by
  obtain ⟨h1, G, Y, h2, h3, h4⟩ := h
  exact ⟨h1, G, Y, h2, fun Z H a b _ => h3 Z H a b, fun i H x H' Z a b c d _ => h4 i H x H' Z a b c d⟩
section
variable {K : PySem.W.Frag} {Z0 : Hp} {a b : Addr} {xs ys : List V} {ds es : List D}
theorem walkOk_own {F : Hp} (l : xs.length ≤ sizeLine) (h : F a = some (.lst xs)) (r : Rps K Z0 xs ds) : WalkOkF K (Itl K a) Z0 F ds := by
  refine ⟨by rw [← r.length]; exact l, fun H => SqL K H a xs, YAt xs, by rw [← r.length]; exact walk_list, fun Z H s1 s2 s3 => .inl (.inl (s3 _ _ h)), fun i H x H' Z _ y s1 s2 _ => ?_⟩
  obtain ⟨rfl, hx⟩ := y
  obtain ⟨d, hd, rd⟩ := r.get hx
  exact ⟨Z, d, hd, Grow.refl s2, rd.mono s1⟩
theorem walkOk_list (l : xs.length ≤ sizeLine) (h : Z0 a = some (.lst xs)) (r : Rps K Z0 xs ds) : WalkOk K (Itl K a) Z0 ds := by
  refine ⟨by rw [← r.length]; exact l, fun H => SqL K H a xs, YAt xs, by rw [← r.length]; exact walk_list, fun Z H s1 s2 => .inl (.inl (s2 _ _ (s1 _ _ h))), fun i H x H' Z _ y s1 s2 => ?_⟩
  obtain ⟨rfl, hx⟩ := y
  obtain ⟨d, hd, rd⟩ := r.get hx
  exact ⟨Z, d, hd, Grow.refl s2, rd.mono s1⟩
theorem walkOk_tup (l : xs.length ≤ sizeLine) (h : ∀ Z H, Same Z0 Z → Same Z H → SqT K H a xs) (r : Rps K Z0 xs ds) : WalkOk K (Itt K a) Z0 ds := by
  refine ⟨by rw [← r.length]; exact l, fun H => SqT K H a xs, YAt xs, by rw [← r.length]; exact walk_tup, h, fun i H x H' Z _ y s1 s2 => ?_⟩
  obtain ⟨rfl, hx⟩ := y
  obtain ⟨d, hd, rd⟩ := r.get hx
  exact ⟨Z, d, hd, Grow.refl s2, rd.mono s1⟩
theorem walkOk_range (lo : Int) (n : Nat) (l : n ≤ sizeLine) : WalkOk K (Itr lo n) Z0 (rngD lo n) := by
  have hl : (rngD lo n).length = n := by simp [rngD]
  refine ⟨by rw [hl]; exact l, fun _ => True, YFn fun i => .int (lo + i), by rw [hl]; exact walk_range, fun _ _ _ _ => trivial, fun i H x H' Z hi y s1 s2 => ?_⟩
  obtain ⟨rfl, rfl⟩ := y
  rw [hl] at hi
  exact ⟨Z, .int (lo + i), by simp [rngD,hi], Grow.refl s2, .int _⟩
theorem pair_grow {Z H : Hp} {x y : V} {d e : D} {t : Addr} (s : Same Z H) (ht : H t = none) (rx : Rp K Z x d) (ry : Rp K Z y e) :
    Grow Z H (upd Z t (.tup [x, y])) (upd H t (.tup [x, y])) ∧ Rp K (upd Z t (.tup [x, y])) (.ref t) (.tuple [d, e]) := by
  have g := Grow.new (o := .tup [x, y]) s ht
  exact ⟨g, .tup upd_same (by show 2 ≤ sizeLine; decide) (.cons (rx.mono g.zz) (.cons (ry.mono g.zz) .nil))⟩
theorem enumD_get {i : Nat} {d : D} (h : ds[i]? = some d) : (enumD ds)[i]? = some (.tuple [.int (i : Nat), d]) := by
  unfold enumD
  have hi := (List.getElem?_eq_some_iff.mp h).1
  rw [List.getElem?_map, (List.getElem?_zip_eq_some (z := (i, d))).mpr ⟨by rw [List.getElem?_range hi], h⟩]
  rfl
theorem enumD_length : (enumD ds).length = ds.length := by simp [enumD]
theorem walkOk_enum (l : xs.length ≤ sizeLine) (h : Z0 a = some (.lst xs)) (r : Rps K Z0 xs ds) : WalkOk K (Ite K a) Z0 (enumD ds) := by
  refine ⟨by rw [enumD_length, ← r.length]; exact l, fun H => SqL K H a xs, _, by rw [enumD_length, ← r.length]; exact walk_enum, fun Z H s1 s2 => .inl (.inl (s2 _ _ (s1 _ _ h))), fun i H x H' Z _ y s1 s2 => ?_⟩
  obtain ⟨t, u, v, rfl, ht, rfl, hu, hv⟩ := y
  cases hu
  obtain ⟨d, hd, rd⟩ := r.get hv
  obtain ⟨g, q⟩ := pair_grow s2 ht (Rp.int (K := K) _) (rd.mono s1)
  exact ⟨_, _, enumD_get hd, g, q⟩
theorem walk_enumT {n : Nat} (hn : n = xs.length) : Walk (IteT K a n) xs.length (fun H => SqT K H a xs) (YPair (fun i => some (.int (i : Nat))) (fun i => xs[i]?)) := by
  subst hn
  refine ⟨fun i H hi q => ⟨xs, xs[i], q, rfl, by simp [hi]⟩, fun H q => ⟨xs, q, rfl, Nat.le_refl _⟩, fun i H v H' hi q y => ?_⟩
  obtain ⟨t, x, h1, h2, h3, h4⟩ := y
  exact ⟨t, .int (i : Nat), x, h1, h2, h3, rfl, h4 xs q⟩
theorem walkOk_enumT (l : xs.length ≤ sizeLine) (h : Z0 a = some (.tup xs)) (r : Rps K Z0 xs ds) : WalkOk K (IteT K a xs.length) Z0 (enumD ds) := by
  refine ⟨by rw [enumD_length, ← r.length]; exact l, fun H => SqT K H a xs, _, by rw [enumD_length, ← r.length]; exact walk_enumT rfl, fun Z H s1 s2 => .inl (.inl (s2 _ _ (s1 _ _ h))), fun i H x H' Z _ y s1 s2 => ?_⟩
  obtain ⟨t, u, v, rfl, ht, rfl, hu, hv⟩ := y
  cases hu
  obtain ⟨d, hd, rd⟩ := r.get hv
  obtain ⟨g, q⟩ := pair_grow s2 ht (Rp.int (K := K) _) (rd.mono s1)
  exact ⟨_, _, enumD_get hd, g, q⟩
theorem zipD_get {i : Nat} {d e : D} (h : ds[i]? = some d) (h' : es[i]? = some e) : (zipD ds es)[i]? = some (.tuple [d, e]) := by
  unfold zipD
  rw [List.getElem?_map, (List.getElem?_zip_eq_some (z := (d, e))).mpr ⟨h, h'⟩]
  rfl
theorem zipD_length : (zipD ds es).length = min ds.length es.length := by simp [zipD]
theorem walkOk_zip (l : xs.length ≤ sizeLine) (h : Z0 a = some (.lst xs)) (h' : Z0 b = some (.lst ys)) (r : Rps K Z0 xs ds) (r' : Rps K Z0 ys es) : WalkOk K (Itz K a b) Z0 (zipD ds es) := by
  refine ⟨by rw [zipD_length, ← r.length]; exact Nat.le_trans (Nat.min_le_left _ _) l, fun H => SqL K H a xs ∧ SqL K H b ys, _, by rw [zipD_length, ← r.length, ← r'.length]; exact walk_zip rfl, fun Z H s1 s2 => ⟨.inl (.inl (s2 _ _ (s1 _ _ h))), .inl (.inl (s2 _ _ (s1 _ _ h')))⟩, fun i H x H' Z _ y s1 s2 => ?_⟩
  obtain ⟨t, u, v, rfl, ht, rfl, hu, hv⟩ := y
  obtain ⟨d, hd, rd⟩ := r.get hu
  obtain ⟨e, he, re⟩ := r'.get hv
  obtain ⟨g, q⟩ := pair_grow s2 ht (rd.mono s1) (re.mono s1)
  exact ⟨_, _, zipD_get hd he, g, q⟩
theorem walk_zipT {n : Nat} (hn : n = min xs.length ys.length) : Walk (RZ.ItzT K a b) n (fun H => SqT K H a xs ∧ SqT K H b ys) (YPair (fun i => xs[i]?) (fun i => ys[i]?)) := by
  subst hn
  refine ⟨fun i H hi q => ?_, fun H q => ⟨xs, ys, q.1, q.2, by omega⟩, fun i H v H' hi q y => ?_⟩
  · exact ⟨xs, ys, xs[i]'(by omega), ys[i]'(by omega), q.1, q.2, by simp, by simp⟩
  · obtain ⟨t, x, z, h1, h2, h3, h4, h5⟩ := y
    exact ⟨t, x, z, h1, h2, h3, h4 xs q.1, h5 ys q.2⟩
theorem walkOk_zipT (l : xs.length ≤ sizeLine) (h : Z0 a = some (.tup xs)) (h' : Z0 b = some (.tup ys)) (r : Rps K Z0 xs ds) (r' : Rps K Z0 ys es) : WalkOk K (RZ.ItzT K a b) Z0 (zipD ds es) := by
  refine ⟨by rw [zipD_length, ← r.length]; exact Nat.le_trans (Nat.min_le_left _ _) l, fun H => SqT K H a xs ∧ SqT K H b ys, _, by rw [zipD_length, ← r.length, ← r'.length]; exact walk_zipT rfl, fun Z H s1 s2 => ⟨.inl (.inl (s2 _ _ (s1 _ _ h))), .inl (.inl (s2 _ _ (s1 _ _ h')))⟩, fun i H x H' Z _ y s1 s2 => ?_⟩
  obtain ⟨t, u, v, rfl, ht, rfl, hu, hv⟩ := y
  obtain ⟨d, hd, rd⟩ := r.get hu
  obtain ⟨e, he, re⟩ := r'.get hv
  obtain ⟨g, q⟩ := pair_grow s2 ht (rd.mono s1) (re.mono s1)
  exact ⟨_, _, zipD_get hd he, g, q⟩
end
end Bide

set_option autoImplicit false
set_option Elab.async false
set_option maxRecDepth 100000
set_option linter.all false
/-! What an evaluation says of a body's state; when a text of Python is one of the small language. -/
namespace Bide
open PySem L2


/-! ### outcomes -/
/-- the classes among what is known by name (the tables are not) -/
def clsOf (ca : String → Option Addr) (x : String) : Option Addr := if x.toList.head? = some '<' then none else ca x
/-- an exception of ours: its class, its fields in its own dict -/
def ExOk (K : PySem.W.Frag) (ca : String → Option Addr) (xf : String → List String) (x : Exc) (cls : Value) (dd : Option Addr) (H Z : Hp) : Prop :=
  ∃ C d fs, clsOf ca x.c = some C ∧ cls = .ref C ∧ dd = some d ∧ H d = some (.xd fs) ∧ ∀ (i : Nat) n y, (xf x.c)[i]? = some n → x.fs[i]? = some y → ∃ v, fs.lookup (sN n) = some v ∧ Rp K Z v y

/-- what all parts of a body's soundness share -/
structure Wd where
  K : PySem.W.Frag
  cf : Cf
  ren : String → String
  xf : String → List String
  c : En
  W : WX
abbrev Wd.ca (w : Wd) : String → Option Addr := w.c.ca

def Out (w : Wd) {α : Type} (σ : L2.St) (Z : Hp) (r : R α) (k : α → Ev → Hp → Hp → (Nat → List Addr) → Prop) : Prop :=
  match r with
  | .ok a e => ∀ H' Z' A', Same Z Z' → RS w.K w.c σ H' Z' e A' → k a e H' Z' A'
  | .ex x e => ∀ H' Z' A' cls dd, Same Z Z' → RS w.K w.c σ H' Z' e A' → ExOk w.K w.ca w.xf x cls dd H' Z' → w.W cls dd σ H'
  | .bad => False
section
variable {w : Wd} {α β : Type} {σ : L2.St} {H Z Z' : Hp} {r : R α} {f : α → Ev → R β} {k : β → Ev → Hp → Hp → (Nat → List Addr) → Prop} {k1 k2 : α → Ev → Hp → Hp → (Nat → List Addr) → Prop}
theorem Out.same (h : Out w σ Z r k1) (s : Same Z Z') : Out w σ Z' r k1 := by
  cases r with
  | ok a e => exact fun H' Z'' A' s' => h H' Z'' A' (s.trans s')
  | ex x e => exact fun H' Z'' A' cls dd s' => h H' Z'' A' cls dd (s.trans s')
  | bad => exact h
theorem Out.bnd (h : Out w σ Z (r.bind f) k) : Out w σ Z r (fun a e _ Z1 _ => Out w σ Z1 (f a e) k) := by
  cases r with
  | ok a e => exact fun H' Z'' A' s' _ => Out.same (r := f a e) h s'
  | ex x e => exact h
  | bad => exact h
theorem Out.impE (h : Out w σ Z r k1) (i : ∀ a e, r = .ok a e → ∀ H1 Z1 A1, Same Z Z1 → RS w.K w.c σ H1 Z1 e A1 → k1 a e H1 Z1 A1 → k2 a e H1 Z1 A1) : Out w σ Z r k2 := by
  cases r with
  | ok a e => exact fun H' Z'' A' s' R => i a e rfl H' Z'' A' s' R (h H' Z'' A' s' R)
  | ex x e => exact h
  | bad => exact h
theorem Out.imp (h : Out w σ Z r k1) (i : ∀ a e H1 Z1 A1, Same Z Z1 → RS w.K w.c σ H1 Z1 e A1 → k1 a e H1 Z1 A1 → k2 a e H1 Z1 A1) : Out w σ Z r k2 := by
  cases r with
  | ok a e => exact fun H' Z'' A' s' R => i a e H' Z'' A' s' R (h H' Z'' A' s' R)
  | ex x e => exact h
  | bad => exact h
end

def semE (w : Wd) (e : E) : TE := fun σ H Q => ∃ ev Z A, RS w.K w.c σ H Z ev A ∧ Out w σ Z (evE w.cf e ev) fun r ev' H' Z' A' => ∀ x, RR w.K w.c σ H' Z' ev' A' x r → Q x H'
def semT (w : Wd) (t : T) : TT := fun σ H Q => ∃ ev Z A, RS w.K w.c σ H Z ev A ∧ Out w σ Z (evT w.cf t ev) fun r ev' H' Z' A' => Q r H'
def RRs (K : PySem.W.Frag) (c : En) (σ : L2.St) (H Z : Hp) (ev : Ev) (A : Nat → List Addr) : List V → List RV → Prop
  | [], [] => True
  | x :: xs, r :: rs => RR K c σ H Z ev A x (stl r) ∧ RRs K c σ H Z ev A xs rs
  | _, _ => False
def semEs (w : Wd) (es : Es) : TA := fun σ H Q => ∃ ev Z A, RS w.K w.c σ H Z ev A ∧ Out w σ Z (evEs w.cf es ev) fun r ev' H' Z' A' => ∀ xs, RRs w.K w.c σ H' Z' ev' A' xs r → Q xs H'
def semO (w : Wd) (o : O) : TO := fun σ H Q => ∃ ev Z A, RS w.K w.c σ H Z ev A ∧ Out w σ Z (evO w.cf o ev) fun r ev' H' Z' A' => Q r H'
def semC (w : Wd) (t : C) : TT := fun σ H Q => ∃ ev Z A, RS w.K w.c σ H Z ev A ∧ Out w σ Z (evC w.cf t ev) fun r ev' H' Z' A' => Q r H'
def semIt (w : Wd) (t : It) : TI := fun σ H R => ∃ ev Z A, RS w.K w.c σ H Z ev A ∧ Out w σ Z (evIt w.cf t ev) fun ds ev' H' Z' A' => ∀ J, WalkOk w.K J Z' ds → R J H'

/-! ### a function's promise -/
/-- the arguments: shared ones, and lent lists -/
inductive Args (K : PySem.W.Frag) (Z H : Hp) : Nat → List Bool → List V → List D → List (Nat × Addr) → Prop
  | nil (i : Nat) : Args K Z H i [] [] [] []
  | sh {i : Nat} {bs : List Bool} {v : V} {vs : List V} {d : D} {ds : List D} {P : List (Nat × Addr)} : Rp K Z v d → Args K Z H (i + 1) bs vs ds P → Args K Z H i (false :: bs) (v :: vs) (d :: ds) P
  | io {i : Nat} {bs : List Bool} {a : Addr} {xs : List V} {ys : List D} {vs : List V} {ds : List D} {P : List (Nat × Addr)} : H a = some (.lst xs) → xs.length ≤ sizeLine → Rps K Z xs ys → Z a = none → (∀ j, (j, a) ∉ P) →
      Args K Z H (i + 1) bs vs ds P → Args K Z H i (true :: bs) (.ref a :: vs) (.list ys :: ds) ((i, a) :: P)
/-- behind the call -/
structure Post (ca : String → Option Addr) (Z H Z' H' : Hp) (P : List (Nat × Addr)) : Prop where
  zz : Same Z Z'
  sub : Same Z' H'
  zf : ∀ p o, Z' p = some o → Z p = some o ∨ H p = none ∨ HoTup o
  fr : ∀ p o, H p = some o → (∀ i, (i, p) ∉ P) → (∀ ps, o ≠ .tbl ps) → H' p = some o
  tk : ∀ p ps, H p = some (.tbl ps) → ∃ qs, H' p = some (.tbl qs)
  nz : NoT Z'
  tb : TbOk ca H'
inductive Outs (K : PySem.W.Frag) (Z H : Hp) : List (Nat × Addr) → List (List D) → Prop
  | nil : Outs K Z H [] []
  | cons {i : Nat} {a : Addr} {xs : List V} {ys : List D} {P : List (Nat × Addr)} {o : List (List D)} : H a = some (.lst xs) → xs.length ≤ sizeLine → Rps K Z xs ys → Z a = none → Outs K Z H P o → Outs K Z H ((i, a) :: P) (ys :: o)
def spOf (K : PySem.W.Frag) (ca : String → Option Addr) (xf : String → List String) (F : Fn) : Sp := fun vs H Q E => ∃ Z ds P, Same Z H ∧ NoT Z ∧ TbOk ca H ∧ Args K Z H 0 F.io vs ds P ∧
  match F.run ds with
  | .ok r outs => ∀ x H' Z', Post ca Z H Z' H' P → Outs K Z' H' P outs → New K H Z' H' x r → Q x H'
  | .ex x => ∀ cls dd H' Z', Post ca Z H Z' H' P → ExOk K ca xf x cls dd H' Z' → E cls dd H'
  | .bad => False

/-! ### the context -/
structure XOk (w : Wd) (k : Nat) (N : List Str) (fb : Str → Bool) (X : Cx) : Prop where
  K : X.K = w.K
  N : X.N = N
  calm : X.calm = true
  nd : X.N.Nodup
  room : Room k X.A
  fns : ∀ f F, w.cf.G f = some F → ∃ a fd ps, X.mg (sN (w.ren f)) = some (.ref a) ∧ PySem.W.keepIn X.K (.ref a) = true ∧ Binds X.K fd ps [] ∧ FnOk X.prog X.w X.K X.mg X.base (L2.CX X.prog X.w) k a fd ps (spOf X.K w.ca w.xf F)
  gls : ∀ x d, w.cf.gl x = some d → ∃ v u, X.mg (sN x) = some u ∧ RelV v u ∧ ∀ Z, Rp X.K Z v d
  blt : ∀ x ∈ bltNames, X.mg (sN x) = none
  fn : ∀ x, fb x = true → X.fn x = true
  lam : ∀ x, w.ren ("<lambda> " ++ x) = "<lambda>" → ∃ P c, w.c.ca ("<lambda> " ++ x) = some P ∧ X.env.qual ++ "<lambda>" = Str.ofString x ∧ X.env.code = .ref c ∧ LamX.TabB X.base X.mg c P ∧ ∀ y P', w.c.ca ("<lambda> " ++ y) = some P' → y ≠ x → P' ≠ P

abbrev stepS : Str := Str.ofString "step"
/-- the lambda's body -/
def lamB : Expr → Bool
  | .Tuple [.Compare (.Subscript (.Name a _) (.Constant (.int i) _ _) _) [.Eq] [.Constant (.str z) _ _] _, .Subscript (.Name b _) (.Constant (.int j) _ _) _, .Subscript (.Name c _) (.Constant (.int k) _ _) _] _ _ => decide (a = stepS) && (decide (b = stepS) && (decide (c = stepS) && (decide (i = 0) && (decide (j = 1) && (decide (k = 2) && decide (z = lowS))))))
  | _ => false
def parB1 : Arguments → Bool
  | ⟨[], [⟨a, none, _⟩], none, [], [], none, []⟩ => decide (a = stepS)
  | _ => false
def scoB (sc : Scope) : Bool := decide (sc.kind = .function) && (!sc.isCoroutine && (!sc.isGenerator && decide (sc.names = [(stepS, .local)])))
/-! ### the texts -/
def vis (sc : Scope) (x : Str) : Bool := match sc.names.lookup x with
  | some .local => true
  | some .cell => true
  | some .free => true
  | _ => false
def glb (sc : Scope) (x : Str) : Bool := match sc.names.lookup x with
  | some .globalImplicit => true
  | _ => false
def dbgN : Str := Str.ofString "__debug__"
def cldN : Str := Str.ofString "__classdict__"
def isN (x : Str) (s : String) : Bool := decide (x = sN s)
def okName (x : Str) : Bool := !(x == dbgN) && !(x == cldN)
def rdSlot (N : List Str) (sc : Scope) (i : Nat) (x : Str) : Bool := decide (N[i]? = some x) && vis sc x && okName x
def wrSlot (N : List Str) (sc : Scope) (fb : Str → Bool) (i : Nat) (x : Str) : Bool := decide (N[i]? = some x) && match sc.names.lookup x with
  | some .local => true
  | some .cell => fb x
  | _ => false
def mTgs (N : List Str) (sc : Scope) (fb : Str → Bool) : List Nat → List Expr → Bool
  | [], [] => true
  | i :: is, .Name x _ :: es => wrSlot N sc fb i x && mTgs N sc fb is es
  | _, _ => false
def mTg (N : List Str) (sc : Scope) (fb : Str → Bool) (tup : Bool) (tg : List Nat) (e : Expr) : Bool :=
  match tup, tg, e with
  | false, [i], .Name x _ => wrSlot N sc fb i x
  | true, is, .Tuple es _ _ => mTgs N sc fb is es
  | _, _, _ => false
def Blt.nm : Blt → String
  | .len => "len"
  | .abs => "abs"
  | .int => "int"
  | .sum => "sum"
  | .all => "all"
  | .any => "any"
  | .max1 => "max"
  | .min1 => "min"
  | .max2 => "max"
  | .min2 => "min"
  | .tuple => "tuple"
  | .list => "list"
  | .sorted => "sorted"
def Ty.nm : Ty → String
  | .int => "int"
  | .bool => "bool"
  | .str => "str"
  | .tuple => "tuple"
  | .list => "list"
def Mth.nm : Mth → String
  | .append => "append"
  | .extend => "extend"
  | .pop1 => "pop"
  | .remove => "remove"
def blkFb (scope : Scope) : Str → Bool := fun x => scope.names.lookup x == some .cell
def relSc (scope sc : Scope) : Scope :=
  { scope with names := scope.names.map fun (n, k) => if (k == .free && sc.kind == .function && sc.names.lookup n == some .cell) then (n, .cell) else (n, k) }
def ownP (N : List Str) (own : List Nat) : List (Str × Nat) := own.map fun i => (N.getD i dbgN, i)
def plainPy : Expr → Bool
  | .UnaryOp _ _ _ => false
  | .BoolOp _ _ _ => false
  | .IfExp _ _ _ _ => false
  | .Compare _ _ _ _ => false
  | _ => true
def notSup : Expr → Bool
  | .Name _ _ => true
  | .Subscript _ _ _ => true
  | _ => false
/-- {x: (z, ())} -/
def dlC : E → E → Option (Nat × Int)
  | .var i, .tup (.cons (.int y) (.cons (.tup .nil) .nil)) => some (i, y)
  | _, _ => none
def dlP : List (Option Expr) → List Expr → Option (Str × Int)
  | [some (.Name x _)], [.Tuple [.Constant (.int z) _ _, .Tuple [] _ _] _ _] => some (x, z)
  | _, _ => none
theorem dlC_eq {a b : E} {i : Nat} {y : Int} (h : dlC a b = some (i, y)) : a = .var i ∧ b = .tup (.cons (.int y) (.cons (.tup .nil) .nil)) := by
  unfold dlC at h
  split at h
  · cases h; exact ⟨rfl, rfl⟩
  · cases h
theorem dlP_eq {ks : List (Option Expr)} {vs : List Expr} {x : Str} {z : Int} (h : dlP ks vs = some (x, z)) : ∃ p1 c1 p2 c2 p3 c3 p4, ks = [some (.Name x p1)] ∧ vs = [.Tuple [.Constant (.int z) c1 p2, .Tuple [] c2 p3] c3 p4] := by
  unfold dlP at h
  split at h
  · cases h; exact ⟨_, _, _, _, _, _, _, rfl, rfl⟩
  · cases h
mutual
def mE (N : List Str) (ren : String → String) : E → Scope → Expr → Bool
  | .var i, sc, .Name x _ => rdSlot N sc i x
  | .non, _, .Constant .none _ _ => true
  | .bl b, _, .Constant (.bool c) _ _ => b == c
  | .int i, _, .Constant (.int j) _ _ => i == j
  | .str s, _, .Constant (.str x) _ _ => isN x s
  | .glo s, sc, .Name x _ => isN x s && glb sc x && okName x
  | .bin o a b, sc, .BinOp l p r _ => decide (p = o.py) && mE N ren a sc l && mE N ren b sc r
  | .neg a, sc, .UnaryOp .USub l _ => mE N ren a sc l
  | .cmp o a b, sc, .Compare l [p] [r] _ => decide (p = o.py) && mE N ren a sc l && mE N ren b sc r
  | .chn o p a b d, sc, .Compare l [o', p'] [m, r] _ => decide (o' = o.py) && decide (p' = p.py) && mE N ren a sc l && mE N ren b sc m && mE N ren d sc r
  | .and a b, sc, .BoolOp .And (x :: y :: rest) pos => mE N ren a sc x && (match rest with
    | [] => mE N ren b sc y
    | z :: rest => mE N ren b sc (.BoolOp .And (y :: z :: rest) pos))
  | .or a b, sc, .BoolOp .Or (x :: y :: rest) pos => mE N ren a sc x && (match rest with
    | [] => mE N ren b sc y
    | z :: rest => mE N ren b sc (.BoolOp .Or (y :: z :: rest) pos))
  | .not a, sc, .UnaryOp .Not l _ => mE N ren a sc l
  | .ife t a b, sc, .IfExp c l r _ => mT N ren t sc c && mE N ren a sc l && mE N ren b sc r
  | .tup es, sc, .Tuple xs _ _ => mEs N ren es sc xs
  | .lst es, sc, .List xs _ => mEs N ren es sc xs
  | .dnew _, _, .Dict [] [] _ => true
  | .dlit a b, sc, .Dict ks vs _ => (match dlC a b, dlP ks vs with
    | some (i, y), some (x, z) => rdSlot N sc i x && decide (y = z)
    | _, _ => false)
  | .idx a b, sc, .Subscript l r _ => mE N ren a sc l && mE N ren b sc r
  | .idx2 i a j, sc, .Subscript (.Subscript (.Name x _) l _) (.Name y _) _ => rdSlot N sc i x && mE N ren a sc l && rdSlot N sc j y
  | .slc a lo hi, sc, .Subscript l (.Slice x y none _) _ => mE N ren a sc l && mO N ren lo sc x && mO N ren hi sc y
  | .dget a b, sc, .Subscript l r _ => mE N ren a sc l && mE N ren b sc r
  | .call f es, sc, .Call (.Name x _) (y :: ys) [] _ => isN x (ren f) && glb sc x && okName x && mEs N ren es sc (y :: ys)
  | .blt f es, sc, .Call (.Name x _) (y :: ys) [] _ => isN x f.nm && glb sc x && mEs N ren es sc (y :: ys)
  | .lrg a, sc, .Call (.Name x _) [.Call (.Name z _) [l] [] _] [] _ => isN x "list" && glb sc x && isN z "range" && glb sc z && mE N ren a sc l
  | .lrg2 a b, sc, .Call (.Name x _) [.Call (.Name z _) [l, r] [] _] [] _ => isN x "list" && glb sc x && isN z "range" && glb sc z && mE N ren a sc l && mE N ren b sc r
  | .trg a, sc, .Call (.Name x _) [.Call (.Name z _) [l] [] _] [] _ => isN x "tuple" && glb sc x && isN z "range" && glb sc z && mE N ren a sc l
  | .rev a, sc, .Subscript l (.Slice none none (some (.UnaryOp .USub (.Constant (.int z) _ _) _)) _) _ => decide (z = 1) && mE N ren a sc l
  | .srtk x a, sc, .Call (.Name n _) [l] [⟨some kw, .Lambda ps body scope _, _⟩] _ => isN n "sorted" && (glb sc n && (isN kw "key" && (decide (ren ("<lambda> " ++ x) = "<lambda>") && (parB1 ps && (lamB body && (scoB scope && mE N ren a sc l))))))
  | .isi a t, sc, .Call (.Name x _) [l, .Name y _] [] _ => isN x "isinstance" && glb sc x && isN y t.nm && glb sc y && mE N ren a sc l
  | .mth1 m i e, sc, .Call (.Attribute (.Name x _) n apos) [y] [] cpos => rdSlot N sc i x && isN n m.nm && (apos.endLine == cpos.line) && mE N ren e sc y
  | .pop0 i, sc, .Call (.Attribute (.Name x _) n apos) [] [] cpos => rdSlot N sc i x && isN n "pop" && (apos.endLine == cpos.line)
  | .ins i a b, sc, .Call (.Attribute (.Name x _) n apos) [y, z] [] cpos => rdSlot N sc i x && isN n "insert" && (apos.endLine == cpos.line) && mE N ren a sc y && mE N ren b sc z
  | .ixof a b, sc, .Call (.Attribute o n apos) [y] [] cpos => isN n "index" && (apos.endLine == cpos.line) && notSup o && mE N ren a sc o && mE N ren b sc y
  | .dg1 a b, sc, .Call (.Attribute o n apos) [y] [] cpos => isN n "get" && (apos.endLine == cpos.line) && notSup o && mE N ren a sc o && mE N ren b sc y
  | .dg2 a b d, sc, .Call (.Attribute o n apos) [y, z] [] cpos => isN n "get" && (apos.endLine == cpos.line) && notSup o && mE N ren a sc o && mE N ren b sc y && mE N ren d sc z
  | .items i, sc, .Call (.Name x _) [.Call (.Attribute (.Name z _) n apos) [] [] cpos] [] _ => isN x "list" && glb sc x && rdSlot N sc i z && isN n "items" && (apos.endLine == cpos.line)
  | .strI a, sc, .Call (.Name x _) [l] [] _ => isN x "str" && glb sc x && mE N ren a sc l
  | .lc own tg tup it c e, sc, .ListComp elt [⟨t, iter, ifs, z⟩] scope _ => decide (z = 0) && blkC N sc scope (ownP N own) && mTg N (relSc scope sc) (blkFb scope) tup tg t && mIt N ren it sc t iter && mC N ren c (relSc scope sc) ifs && mE N ren e (relSc scope sc) elt
      && tg.all fun i => decide (i ∈ own)
  | .lco own tg tup i c e, sc, .ListComp elt [⟨t, .Name x _, ifs, z⟩] scope _ => decide (z = 0) && blkC N sc scope (ownP N own) && mTg N (relSc scope sc) (blkFb scope) tup tg t && rdSlot N sc i x && mC N ren c (relSc scope sc) ifs && mE N ren e (relSc scope sc) elt
      && tg.all fun i => decide (i ∈ own)
  | .lc2 own tg tup it c e, sc, .ListComp elt [⟨t, iter, ifs, z⟩] scope _ => decide (z = 0) && blkC N sc scope (ownP N own) && mTg N (relSc scope sc) (blkFb scope) tup tg t && mIt N ren it sc t iter && (match c, ifs with
      | .no, [] => true
      | _, _ => false) && mE N ren e (relSc scope sc) elt && tg.all fun i => decide (i ∈ own)
  | .dc _ own tg tup it c k v, sc, .DictComp kx vx [⟨t, iter, ifs, z⟩] scope _ => decide (z = 0) && blkC N sc scope (ownP N own) && mTg N (relSc scope sc) (blkFb scope) tup tg t && mIt N ren it sc t iter && mC N ren c (relSc scope sc) ifs
      && (mE N ren k (relSc scope sc) kx && mE N ren v (relSc scope sc) vx) && tg.all fun i => decide (i ∈ own)
  | .dck _ own tg tup i c k v, sc, .DictComp kx vx [⟨t, .Name x _, ifs, z⟩] scope _ => decide (z = 0) && blkC N sc scope (ownP N own) && mTg N (relSc scope sc) (blkFb scope) tup tg t && rdSlot N sc i x && mC N ren c (relSc scope sc) ifs
      && (mE N ren k (relSc scope sc) kx && mE N ren v (relSc scope sc) vx) && tg.all fun i => decide (i ∈ own)
  | _, _, _ => false
def mT (N : List Str) (ren : String → String) : T → Scope → Expr → Bool
  | .val e, sc, py => (match e with
    | .cmp _ _ _ => true
    | .chn _ _ _ _ _ => true
    | _ => plainPy py) && mE N ren e sc py
  | .and a b, sc, .BoolOp .And (x :: y :: rest) pos => mT N ren a sc x && (match rest with
    | [] => mT N ren b sc y
    | z :: rest => mT N ren b sc (.BoolOp .And (y :: z :: rest) pos))
  | .or a b, sc, .BoolOp .Or (x :: y :: rest) pos => mT N ren a sc x && (match rest with
    | [] => mT N ren b sc y
    | z :: rest => mT N ren b sc (.BoolOp .Or (y :: z :: rest) pos))
  | .not a, sc, .UnaryOp .Not l _ => mT N ren a sc l
  | _, _, _ => false
def mEs (N : List Str) (ren : String → String) : Es → Scope → List Expr → Bool
  | .nil, _, [] => true
  | .cons e es, sc, x :: xs => mE N ren e sc x && mEs N ren es sc xs
  | _, _, _ => false
def mO (N : List Str) (ren : String → String) : O → Scope → Option Expr → Bool
  | .no, _, none => true
  | .so e, sc, some x => mE N ren e sc x
  | _, _, _ => false
def mC (N : List Str) (ren : String → String) : C → Scope → List Expr → Bool
  | .no, _, [] => true
  | .so t, sc, [x] => mT N ren t sc x
  | _, _, _ => false
/-- the target decides which walks may give pairs -/
def mIt (N : List Str) (ren : String → String) : It → Scope → Expr → Expr → Bool
  | .seq e, sc, _, x => mE N ren e sc x
  | .rng a, sc, _, .Call (.Name x _) [l] [] _ => isN x "range" && glb sc x && mE N ren a sc l
  | .rng2 a b, sc, _, .Call (.Name x _) [l, r] [] _ => isN x "range" && glb sc x && mE N ren a sc l && mE N ren b sc r
  | .enum e, sc, .Tuple _ _ _, .Call (.Name x _) [l] [] _ => isN x "enumerate" && glb sc x && mE N ren e sc l
  | .zip a b, sc, .Tuple _ _ _, .Call (.Name x _) [l, r] [] _ => isN x "zip" && glb sc x && mE N ren a sc l && mE N ren b sc r
  | _, _, _, _ => false
end
end Bide

set_option autoImplicit false
set_option Elab.async false
set_option maxRecDepth 100000
set_option linter.all false
/-! Helpers for the soundness. -/
namespace Bide
open PySem L2
section
variable {K : PySem.W.Frag} {c : En} {σ : L2.St} {H Z H' Z' : Hp} {ev ev' : Ev} {A A' : Nat → List Addr} {x : V} {r : RV} {d : D}
theorem rd_stl : rd ev (stl r) = rd ev r := by cases r <;> rfl
theorem esc_stl : esc ev (stl r) = esc ev r := by cases r <;> rfl
theorem stl_stl : stl (stl r) = stl r := by cases r <;> rfl
theorem RS.stl (R : RS K c σ H Z ev A) (q : RR K c σ H Z ev A x r) : ∃ Z', Same Z Z' ∧ RS K c σ H Z' ev A ∧ RR K c σ H Z' ev A x (Bide.stl r) := by
  cases r with
  | v d => exact ⟨Z, Same.refl _, R, q⟩
  | s i => exact ⟨Z, Same.refl _, R, q⟩
  | f o => exact R.settle q
theorem RR.later (q : RR K c σ H Z ev A x (Bide.stl r)) (s : Same Z Z') : RR K c σ H' Z' ev' A' x (Bide.stl r) := by
  cases r with
  | v d => exact Rp.mono s q
  | s i => exact q
  | f o => exact Rp.mono s q
theorem RS.rdv (R : RS K c σ H Z ev A) (q : RR K c σ H Z ev A x (Bide.stl r)) (e : rd ev r = some d) : RdV K Z H x d := by
  cases r with
  | v d' => cases e; exact .inl q
  | f o => cases e; exact .inl q
  | s i =>
    have q' : σ[i]? = some (some x) := q
    simp only [rd] at e
    split at e <;> cases e
    · rename_i h
      obtain ⟨_, v, e1, e2⟩ := R.sl i _ h
      rw [q'] at e1; cases e1; exact .inl e2
    · rename_i h
      obtain ⟨a, e1, _, xs, h1, h2, h3⟩ := R.sl i _ h
      rw [q'] at e1; cases e1
      exact .inr ⟨a, rfl, .inl ⟨_, xs, rfl, h1, h2, h3⟩⟩
    · rename_i t kvs h
      obtain ⟨a, e1, e2⟩ := R.sl i _ h
      rw [q'] at e1; cases e1
      cases t with
      | false => obtain ⟨_, ks, h1, h2, h3⟩ := e2; exact .inr ⟨a, rfl, .inr (.inl ⟨_, ks, rfl, h1, h2, h3⟩)⟩
      | true => obtain ⟨_, ks, h1, h2, h3⟩ := e2; exact .inr ⟨a, rfl, .inr (.inr ⟨_, ks, rfl, h1, h2, h3⟩)⟩
    · rename_i h
      obtain ⟨a, e1, _, xs, h1, h2, h3⟩ := R.sl i _ h
      rw [q'] at e1; cases e1
      exact .inr ⟨a, rfl, .inl ⟨_, xs, rfl, h1, h2, h3⟩⟩
theorem RS.esc (R : RS K c σ H Z ev A) (q : RR K c σ H Z ev A x (Bide.stl r)) (e : Bide.esc ev r = some (d, ev')) : ∃ Z' A', Same Z Z' ∧ RS K c σ H Z' ev' A' ∧ Rp K Z' x d := by
  cases r with
  | v d' => cases e; exact ⟨Z, A, Same.refl _, R, q⟩
  | f o => cases e; exact ⟨Z, A, Same.refl _, R, q⟩
  | s i =>
    have q' : σ[i]? = some (some x) := q
    simp only [Bide.esc] at e
    split at e <;> cases e
    · rename_i h
      obtain ⟨_, v, e1, e2⟩ := R.sl i _ h
      rw [q'] at e1; cases e1
      exact ⟨Z, A, Same.refl _, R, e2⟩
    · rename_i o h
      obtain ⟨Z', y, e1, s, R', rp⟩ := R.share h
      rw [q'] at e1; cases e1
      exact ⟨Z', _, s, R', rp⟩
theorem RS.escs : ∀ {rs : List RV} {xs : List V} {ds : List D} {ev ev' : Ev} {Z : Hp} {A : Nat → List Addr}, RS K c σ H Z ev A → RRs K c σ H Z ev A xs rs → Bide.escs ev rs = some (ds, ev') →
    ∃ Z' A', Same Z Z' ∧ RS K c σ H Z' ev' A' ∧ Rps K Z' xs ds
  | [], [], _, _, _, Z, A, R, _, e => by cases e; exact ⟨Z, A, Same.refl _, R, .nil⟩
  | [], _ :: _, _, _, _, _, _, _, q, _ => q.elim
  | _ :: _, [], _, _, _, _, _, _, q, _ => q.elim
  | r :: rs, x :: xs, ds, ev, ev', Z, A, R, q, e => by
    simp only [Bide.escs] at e
    split at e
    · rename_i d ev1 h1
      split at e <;> cases e
      rename_i ds h2
      obtain ⟨Z1, A1, s1, R1, p1⟩ := R.esc q.1 h1
      have later : RRs K c σ H Z1 ev1 A1 xs rs := by
        have gen : ∀ (xs : List V) (rs : List RV), RRs K c σ H Z ev A xs rs → RRs K c σ H Z1 ev1 A1 xs rs := by
          intro xs
          induction xs with
          | nil => intro rs h; cases rs with
            | nil => trivial
            | cons _ _ => exact h.elim
          | cons y ys ih => intro rs h; cases rs with
            | nil => exact h.elim
            | cons r rs => exact ⟨h.1.later s1, ih rs h.2⟩
        exact gen xs rs q.2
      obtain ⟨Z2, A2, s2, R2, p2⟩ := RS.escs R1 later h2
      exact ⟨Z2, A2, s1.trans s2, R2, .cons (p1.mono s2) p2⟩
    · cases e
theorem RRs.later : ∀ {xs : List V} {rs : List RV}, RRs K c σ H Z ev A xs rs → Same Z Z' → RRs K c σ H' Z' ev' A' xs rs
  | [], [], _, _ => trivial
  | [], _ :: _, h, _ => h.elim
  | _ :: _, [], h, _ => h.elim
  | _ :: _, _ :: _, h, s => ⟨h.1.later s, RRs.later h.2 s⟩
theorem RS.rds (R : RS K c σ H Z ev A) : ∀ {xs : List V} {rs : List RV} {ds : List D}, RRs K c σ H Z ev A xs rs → Bide.rds ev rs = some ds → RdVs K Z H xs ds
  | [], [], _, _, e => by cases e; trivial
  | [], _ :: _, _, h, _ => h.elim
  | _ :: _, [], _, h, _ => h.elim
  | x :: xs, r :: rs, ds, h, e => by
    simp only [Bide.rds] at e
    split at e <;> cases e
    rename_i h1 h2
    exact ⟨R.rdv h.1 h1, RS.rds R h.2 h2⟩
/-- what an operation makes, in the body's state -/
theorem RS.give (R : RS K c σ H Z ev A) {Q : VK} {w : Wd} (hw : w.K = K) (hc : w.c = c) (h : Out w σ Z (.ok r ev) fun r ev' H' Z' A' => ∀ x, RR w.K w.c σ H' Z' ev' A' x r → Q x H') : Give K Z H r Q := by
  subst hw hc
  intro x Z' H' g n
  refine h H' Z' A g.zz (R.ext g.zz g.sub g.zf g.nt g.hh) x ?_
  cases r with
  | v d => exact n
  | s i => exact n.elim
  | f o =>
    obtain ⟨a, as, e, oc, nd, hb⟩ := n
    exact ⟨a, as, e, oc, nd, fun b hm => ⟨(hb b hm).1, R.dead (hb b hm).2, R.fFree (hb b hm).2, fun i hi => R.alive hi (hb b hm).2⟩⟩
end
section
variable {w : Wd} {σ : L2.St} {H Z : Hp} {ev : Ev} {A : Nat → List Addr}
theorem semE_mono {e : E} {Q Q' : VK} (h : semE w e σ H Q) (i : ∀ x H, Q x H → Q' x H) : semE w e σ H Q' := by
  obtain ⟨ev, Z, A, R, o⟩ := h
  exact ⟨ev, Z, A, R, o.imp fun r e1 H1 Z1 A1 _ _ q x rr => i x H1 (q x rr)⟩
theorem semEs_mono {e : Es} {Q Q' : List V → Hp → Prop} (h : semEs w e σ H Q) (i : ∀ x H, Q x H → Q' x H) : semEs w e σ H Q' := by
  obtain ⟨ev, Z, A, R, o⟩ := h
  exact ⟨ev, Z, A, R, o.imp fun r e1 H1 Z1 A1 _ _ q x rr => i x H1 (q x rr)⟩
theorem semT_mono {t : T} {Q Q' : Bool → Hp → Prop} (h : semT w t σ H Q) (i : ∀ x H, Q x H → Q' x H) : semT w t σ H Q' := by
  obtain ⟨ev, Z, A, R, o⟩ := h
  exact ⟨ev, Z, A, R, o.imp fun r e1 H1 Z1 A1 _ _ q => i r H1 q⟩
theorem semO_mono {t : O} {Q Q' : Option Int → Hp → Prop} (h : semO w t σ H Q) (i : ∀ x H, Q x H → Q' x H) : semO w t σ H Q' := by
  obtain ⟨ev, Z, A, R, o⟩ := h
  exact ⟨ev, Z, A, R, o.imp fun r e1 H1 Z1 A1 _ _ q => i r H1 q⟩
/-- a part is evaluated, its value settled; the rest is in its hands -/
theorem sub1 {α : Type} {e : E} {f : RV → Ev → R α} {k : α → Ev → Hp → Hp → (Nat → List Addr) → Prop} (R : RS w.K w.c σ H Z ev A) (h : Out w σ Z ((evE w.cf e ev).bind f) k) :
    semE w e σ H fun x H1 => ∃ r e1 Z1 A1, Same Z Z1 ∧ RS w.K w.c σ H1 Z1 e1 A1 ∧ RR w.K w.c σ H1 Z1 e1 A1 x (stl r) ∧ Out w σ Z1 (f r e1) k := by
  refine ⟨ev, Z, A, R, h.bnd.imp fun r e1 H1 Z1 A1 s1 R1 q x rr => ?_⟩
  obtain ⟨Z2, s2, R2, q2⟩ := R1.stl rr
  exact ⟨r, e1, Z2, A1, s1.trans s2, R2, q2, Out.same q s2⟩
theorem subT {α : Type} {t : T} {f : Bool → Ev → R α} {k : α → Ev → Hp → Hp → (Nat → List Addr) → Prop} (R : RS w.K w.c σ H Z ev A) (h : Out w σ Z ((evT w.cf t ev).bind f) k) :
    semT w t σ H fun b H1 => ∃ e1 Z1 A1, Same Z Z1 ∧ RS w.K w.c σ H1 Z1 e1 A1 ∧ Out w σ Z1 (f b e1) k :=
  ⟨ev, Z, A, R, h.bnd.imp fun r e1 H1 Z1 A1 s1 R1 q => ⟨e1, Z1, A1, s1, R1, q⟩⟩
theorem subO {α : Type} {t : O} {f : Option Int → Ev → R α} {k : α → Ev → Hp → Hp → (Nat → List Addr) → Prop} (R : RS w.K w.c σ H Z ev A) (h : Out w σ Z ((evO w.cf t ev).bind f) k) :
    semO w t σ H fun b H1 => ∃ e1 Z1 A1, Same Z Z1 ∧ RS w.K w.c σ H1 Z1 e1 A1 ∧ Out w σ Z1 (f b e1) k :=
  ⟨ev, Z, A, R, h.bnd.imp fun r e1 H1 Z1 A1 s1 R1 q => ⟨e1, Z1, A1, s1, R1, q⟩⟩
theorem subEs {α : Type} {t : Es} {f : List RV → Ev → R α} {k : α → Ev → Hp → Hp → (Nat → List Addr) → Prop} (R : RS w.K w.c σ H Z ev A) (h : Out w σ Z ((evEs w.cf t ev).bind f) k) :
    semEs w t σ H fun xs H1 => ∃ rs e1 Z1 A1, Same Z Z1 ∧ RS w.K w.c σ H1 Z1 e1 A1 ∧ RRs w.K w.c σ H1 Z1 e1 A1 xs rs ∧ Out w σ Z1 (f rs e1) k :=
  ⟨ev, Z, A, R, h.bnd.imp fun r e1 H1 Z1 A1 s1 R1 q xs rr => ⟨r, e1, Z1, A1, s1, R1, rr, q⟩⟩
/-- the end: a shared value -/
theorem fin_v {Q : VK} {x : V} {d : D} (R : RS w.K w.c σ H Z ev A) (h : Out w σ Z (.ok (.v d) ev) fun r ev' H' Z' A' => ∀ x, RR w.K w.c σ H' Z' ev' A' x r → Q x H') (r : Rp w.K Z x d) : Q x H :=
  h H Z A (Same.refl _) R x r
end
/-! ### the texts' side -/
section
variable {N : List Str} {ren : String → String} {sc : Scope} {py : Expr}
def noStar : Expr → Bool
  | .Starred _ _ => false
  | .Slice _ _ _ _ => false
  | .Set _ _ _ => false
  | _ => true
theorem mE_noStar {e : E} (h : mE N ren e sc py = true) : noStar py = true := by
  cases py <;> first | rfl | (exfalso; revert h; cases e <;> simp [mE])
theorem star_of {env : Env} {es : List Expr} (h : noStar py = true) : starEach (py :: es) env = (false, eval py env) :: starEach es env := by
  cases py <;> first | rfl | (simp [noStar] at h)
theorem mark_of {op : CmpOp} (h : noStar py = true) : behindInMarks op py = false := by
  cases py <;> first | rfl | (simp [noStar] at h)
theorem sub_of (h : noStar py = true) (o i : Value) : subscripted py false o i = operate [o, i] (getItem o i) := by
  cases py <;> first | rfl | (simp [noStar] at h)
theorem mEs_star : ∀ {es : Es} {ys : List Expr} {env : Env} {pos : Pos}, mEs N ren es sc ys = true → (backTo pos (starEach ys env)).any (·.1) = false
  | .nil, [], _, _, _ => rfl
  | .nil, _ :: _, _, _, h => by simp [mEs] at h
  | .cons _ _, [], _, _, h => by simp [mEs] at h
  | .cons e es, y :: ys, env, pos, h => by
    simp only [mEs, Bool.and_eq_true] at h
    rw [star_of (mE_noStar h.1)]
    have ih := mEs_star (env := env) (pos := pos) h.2
    unfold backTo at ih ⊢
    rw [List.map_cons, List.any_cons, ih]
    rfl
theorem isN_eq {x : Str} {s : String} (h : isN x s = true) : x = sN s := of_decide_eq_true h
theorem glb_gl {X : Cx} {x : Str} (h : glb X.env.scope x = true) : Gl X x := by
  unfold glb at h
  split at h
  · rename_i e; exact e
  · cases h
theorem vis_vis {x : Str} (h : vis sc x = true) : Vis sc x := by
  unfold vis at h
  split at h
  · rename_i e; exact .inl e
  · rename_i e; exact .inr (.inl e)
  · rename_i e; exact .inr (.inr e)
  · cases h
theorem okN1 {x : Str} (h : okName x = true) : (x == ("__debug__" : Str)) = false := by
  unfold okName at h
  have := (Bool.and_eq_true_iff.mp h).1
  simpa [dbgN] using this
theorem okN2 {x : Str} (h : okName x = true) : (x == ("__classdict__" : Str)) = false := by
  unfold okName at h
  have := (Bool.and_eq_true_iff.mp h).2
  simpa [cldN] using this
end
end Bide

set_option autoImplicit false
set_option Elab.async false
set_option maxRecDepth 100000
set_option linter.all false
set_option maxHeartbeats 4000000
/-! sorted by a key that a lambda gives. -/
namespace Bide
open PySem PySem.Spec PySem.Calls PyProof.Rows L2
section
variable {prog : Program} {w : World} {A : Around} {E : Value → Shared → Prop} {s : Shared} {env : Env} {a : Str} {u : Addr} {m : Str → Option Value}
/-- step[i] -/
theorem lam_at {its : List Value} {i : Int} {j : Nat} {v : Value} {p1 p2 p3 : Pos} {k : Nat} {Q : Value → Shared → Prop} (hk : env.scope.kind = .function) (hl : env.kindOf a = some .local) (hd : (a == ("__debug__" : Str)) = false) (hn : s.heap.Ns env.locals m) (hm : m a = some (.ref u))
    (ht : IsTup s.heap u its.toArray) (hi : i = (j : Int)) (hj : its[j]? = some v) (hz : its.length ≤ sizeLine) (h : Q v { s with toks := s.toks + 1 }) : wpAny (model prog w) A (eval (.Subscript (.Name a p1) (.Constant (.int i) k p2) p3) env) Q E s := by
  refine Subscript_ (wpAny_Name (wpAny_loadName_local hk hl hn hm (wpAny_Constant_int ?_)) hd)
  have hlt := (List.getElem?_eq_some_iff.mp hj).1
  have hs : its.length < 2 ^ 62 := by rw [sizeLine_eq] at hz; omega
  subst hi
  refine subscriptTail_builtinR (x := v) (s := { s with toks := s.toks + 1 }) (show Shared.TypeIs { s with toks := s.toks + 1 } (.ref u) "tuple" from ht.typeIs) slot_tuple_getitem.lookup
    (getItem_tuple (s := { s with toks := s.toks + 1 }) (j := j) (x := v) (Q := fun r s' => r = v ∧ Q r s') ht (by omega) (by omega) ?_ (by simpa using hj) ⟨rfl, h⟩)
  unfold seqIndex?
  simp
  omega
/-- (step[0] == 'lower', step[1], step[2]) -/
theorem lam_body {sv : Str} {x y : Int} {t1 t2 t3 : Tok} {p1 p2 p3 p4 p5 q1 q2 q3 r1 r2 r3 pp : Pos} {k0 k1 k2 k3 kk : Nat} {Q : Value → Shared → Prop} (hk : env.scope.kind = .function) (hl : env.kindOf a = some .local) (hd : (a == ("__debug__" : Str)) = false) (hn : s.heap.Ns env.locals m) (hm : m a = some (.ref u))
    (ht : IsTup s.heap u [Value.str sv t1, .int x t2, .int y t3].toArray) (h : ∀ tk, Q (.ref s.heap.objs.size) { s with heap := s.heap.push { cls := .type "tuple", data := .seq [Value.bool (sv == lowS), .int x t2, .int y t3].toArray }, toks := tk }) :
    wpAny (model prog w) A (eval (.Tuple [.Compare (.Subscript (.Name a p1) (.Constant (.int 0) k0 p2) p3) [.Eq] [.Constant (.str lowS) k1 p4] p5, .Subscript (.Name a q1) (.Constant (.int 1) k2 q2) q3, .Subscript (.Name a r1) (.Constant (.int 2) k3 r2) r3] kk pp) env) Q E s := by
  have hz : [Value.str sv t1, Value.int x t2, Value.int y t3].length ≤ sizeLine := by rw [sizeLine_eq]; simp
  refine wpAny_Tuple_spliced ?_
  show wpAny _ _ (spliced [(false, eval _ env), (false, eval _ env), (false, eval _ env)]) _ _ _
  refine spliced_cons (wpAny_Compare1 (lam_at hk hl hd hn hm ht (i := 0) (j := 0) rfl rfl hz (Constant_str ?_)))
  refine PyProof.Rows.eq_str ?_
  refine spliced_cons (lam_at (s := { s with toks := s.toks + 1 + 1 }) hk hl hd hn hm ht (i := 1) (j := 1) rfl rfl hz ?_)
  refine spliced_cons (lam_at (s := { s with toks := s.toks + 1 + 1 + 1 }) hk hl hd hn hm ht (i := 2) (j := 2) rfl rfl hz ?_)
  refine spliced_nil ?_
  exact ⟨by rw [sizeLine_eq]; simp, h _⟩
/-- the key of a step: the lambda is called -/
theorem lam_call {f c' : Addr} {q : Str} {pm ctv : Value} {scope : Scope} {pa : Pos} {sv : Str} {x y : Int} {t1 t2 t3 : Tok} {p1 p2 p3 p4 p5 q1 q2 q3 r1 r2 r3 pp : Pos} {k0 k1 k2 k3 kk : Nat} (hdep : A.depth < recursionLimit) (hlim : s.heap.NoLimit)
    (hf : s.heap.get? f = some (PySem.W.kla_obj "<lambda>" q ⟨[], [⟨stepS, none, pa⟩], none, [], [], none, []⟩ (.Tuple [.Compare (.Subscript (.Name stepS p1) (.Constant (.int 0) k0 p2) p3) [.Eq] [.Constant (.str lowS) k1 p4] p5, .Subscript (.Name stepS q1) (.Constant (.int 1) k2 q2) q3, .Subscript (.Name stepS r1) (.Constant (.int 2) k3 r2) r3] kk pp) scope [] pm c' ctv))
    (hcd : s.heap.CodeRec (.ref c') q) (hk : scope.kind = .function) (hco : scope.isCoroutine = false) (hge : scope.isGenerator = false) (hna : scope.names = [(stepS, .local)])
    (ht : IsTup s.heap u [Value.str sv t1, .int x t2, .int y t3].toArray) :
    wpAny (model prog w) A (call (.ref f) [.ref u]) (PySem.W.KeyPure (.tuple [.bool (sv == lowS), .int x, .int y]) s) (fun _ _ => False) s := by
  refine wpAny_call ?_
  refine PySem.W.kla_callFunE hdep hf rfl hco hge rfl hcd ?_
  rw [show bindArgs _ ⟨[Value.ref u], []⟩ = pure [(stepS, Value.ref u)] from rfl]
  have hlk : scope.names.lookup stepS = some .local := by rw [hna]; simp [List.lookup]
  refine wpAny_pure (wpAny_newFunctionEnv (fun y hy => by rw [hna] at hy; cases List.mem_singleton.mp hy; simp) (fun y hy => by cases List.mem_singleton.mp hy; exact hlk) (fun h₁ hns hsb => ⟨hlim.fresh _ hsb, ?_⟩) hk)
  have kp : ∀ b o, s.heap.get? b = some o → h₁.get? b = some o := fun b o e => hsb.extBut b o (Nat.ne_of_lt (Heap.lt_size e)) (Heap.get?_push_of_some _ e)
  obtain ⟨ot, g1, g2, n, g3⟩ := ht
  refine PySem.W.kla_codeExpr ?_
  refine lam_body (s := { s with heap := h₁, toks := s.toks + 1 }) (u := u) hk ?_ (by decide +kernel) hns (by simp [List.lookup]) ⟨ot, kp _ _ g1, g2, n, g3⟩ fun tk => ?_
  · unfold Env.kindOf
    simp [newEnv,hlk]
  refine ⟨h₁.push { cls := .type "tuple", data := .seq [Value.bool (sv == lowS), .int x t2, .int y t3].toArray }, tk, rfl, fun b o e => Heap.get?_push_of_some _ (kp b o e), ?_⟩
  exact .tuple (Heap.get?_push_size _ rfl) rfl rfl (.cons (.bool _) (.cons (.int _ _) (.cons (.int _ _) .nil)))
end
section
open LamX
variable {X : Cx} {pins : List (Addr × Obj)} {σ : L2.St} {H Z : Hp} {s : Shared}
/-- a lambda is made; only the maker's table changes -/
theorem lam_made {c P : Addr} {params : Arguments} {body : Expr} {scope : Scope} {pos : Pos} {E Q : Value → Shared → Prop} (I : Inv X pins σ H s) (TB : TabB X.base X.mg c P) (hcode : X.env.code = .ref c) (hT : TabS H P (X.env.qual ++ "<lambda>"))
    (hdef : defaultsOf params X.env = ([], [])) (hfree : ∀ y ∈ scope.names, y.2 = .free → ∃ c, X.env.cells.lookup y.1 = some c)
    (h : ∀ (f c' : Addr) (pm ctv : Value) (H1 : Hp) (s' : Shared), Inv X pins σ H1 s' → (∀ b o, b ≠ P → H b = some o → H1 b = some o) → TabS H1 P (X.env.qual ++ "<lambda>") →
      s'.heap.get? f = some (PySem.W.kla_obj "<lambda>" (X.env.qual ++ "<lambda>") params body scope (cloFrom X.env.cells scope.names []) pm c' ctv) → H1 c' = some (CodeO c' (X.env.qual ++ "<lambda>")) → Q (.ref f) s') :
    wpAny (model X.prog X.w) X.A (eval (.Lambda params body scope pos) X.env) Q E s := by
  obtain ⟨ps, hP, ht, ha⟩ := hT
  refine PySem.W.kla_eval hdef ?_
  have hP' : s.heap.get? P = some { cls := .none, data := .fields ps } := I.hok P _ hP
  cases hc : codeAmong pos ps.toList with
  | some cv =>
    obtain ⟨c', rfl, hco⟩ := ha pos cv hc
    refine PySem.W.kla_makeFunctionHit (mg := X.mg) (c := c) (P := P) (ps := ps) (closure_ok hfree) I.ok.glob (I.mod.glob.keeps I.bk) hcode (TB.code.keeps I.bk) hP' ht hc (TB.bm.keeps I.bk) fun ctv h' tk hx hsz => ?_
    exact h h'.objs.size c' ((X.mg "__name__").getD .none) ctv H _ (I.kept fun b o e => Heap.get?_push_of_some _ (hx b o e)) (fun _ _ _ e => e) ⟨ps, hP, ht, ha⟩ (Heap.get?_push_size _ rfl) hco
  | none =>
    refine PySem.W.kla_makeFunction (mg := X.mg) (c := c) (P := P) (ps := ps) (closure_ok hfree) I.ok.glob (I.mod.glob.keeps I.bk) hcode (TB.code.keeps I.bk) hP' ht hc TB.gP (TB.bm.keeps I.bk) fun c' ctv h' tk hx hge hlt hrec htb => ?_
    obtain ⟨c2, oc, vs, t, e2, hoc, hd, hv⟩ := hrec
    cases e2
    have nC : H c' = none := I.hok.fresh hge
    have keep : ∀ b o, b ≠ P → H b = some o → upd (upd H P (.tbl (ps ++ #[rawInt pos.line, rawInt pos.col, .ref c']))) c' (CodeO c' (X.env.qual ++ "<lambda>")) b = some o := fun b o n e => by rw [upd_ne (ne_of_none e nC), upd_ne n]; exact e
    refine h h'.objs.size c' ((X.mg "__name__").getD .none) ctv _ _
      (inv_table (t' := tk) (more := #[rawInt pos.line, rawInt pos.col, .ref c']) (h' := h'.push (PySem.W.kla_obj "<lambda>" (X.env.qual ++ "<lambda>") params body scope (cloFrom X.env.cells scope.names []) ((X.mg "__name__").getD .none) c' ctv)) I hP
        (fun b o hb e => Heap.get?_push_of_some _ (hx b o hb e)) (Heap.get?_push_of_some _ htb) hge ⟨oc, vs, t, Heap.get?_push_of_some _ hoc, hd, hv⟩) keep ?_ (Heap.get?_push_size _ rfl) upd_same
    have eL : (ps ++ #[rawInt pos.line, rawInt pos.col, Value.ref c']).toList = ps.toList ++ [rawInt pos.line, rawInt pos.col, .ref c'] := by simp
    refine ⟨_, by rw [upd_ne (ne_of_none hP nC), upd_same], by rw [eL]; exact PySem.TriplesOk_snoc _ _ _ _ ht, fun p' cv hcv => ?_⟩
    rw [eL] at hcv
    rcases among_app _ ht hcv with z | z
    · obtain ⟨c0, e1, e2⟩ := ha p' cv z
      exact ⟨c0, e1, keep _ _ (fun y => by rw [y, hP] at e2; exact codeO_ne _ (Option.some.inj e2).symm) e2⟩
    · exact ⟨c', z, upd_same⟩
/-! ### the sorting -/
theorem isStp_eq {d : D} (h : isStp d = true) : ∃ z x y, d = .tuple [.str z, .int x, .int y] := by
  unfold isStp at h
  split at h
  · exact ⟨_, _, _, rfl⟩
  · cases h
theorem keyL_alike {ds : List D} (h : ds.all isStp = true) : PySem.W.AllAlike (ds.map keyL) := by
  intro d hd d' hd'
  obtain ⟨b, hb, rfl⟩ := List.mem_map.mp hd
  obtain ⟨b', hb', rfl⟩ := List.mem_map.mp hd'
  obtain ⟨z, x, y, rfl⟩ := isStp_eq (List.all_eq_true.mp h b hb)
  obtain ⟨z', x', y', rfl⟩ := isStp_eq (List.all_eq_true.mp h b' hb')
  simp [keyL,PySem.W.alike,PySem.W.alikeAll]
theorem keyL_srt {ds : List D} (h : ds.all isStp = true) : PySem.W.Sortable (ds.map keyL) := .inl fun d hd => by
  obtain ⟨b, hb, rfl⟩ := List.mem_map.mp hd
  obtain ⟨z, x, y, rfl⟩ := isStp_eq (List.all_eq_true.mp h b hb)
  exact ⟨_, _, rfl⟩
theorem keyL_depth {d : D} (h : isStp d = true) : (keyL d).depth ≤ 10 := by
  obtain ⟨z, x, y, rfl⟩ := isStp_eq h
  simp [keyL,PyData.depth,PyData.depthAll]
theorem sortL_run {l f c' : Addr} {q : Str} {params : Arguments} {body : Expr} {scope : Scope} {pm ctv : Value} {ys : List V} {ds : List D} {Q : VK} (I : Inv X pins σ H s) (sz : Same Z H) (hh : SqL X.K H l ys) (r : Rps X.K Z ys ds) (hs : ds.all isStp = true) (hu : X.A.units + 65 < cLine) (hdp : X.A.depth + 5 < recursionLimit)
    (hf : s.heap.get? f = some (PySem.W.kla_obj "<lambda>" q params body scope [] pm c' ctv)) (hco : H c' = some (CodeO c' q)) (h1 : parB1 params = true) (h2 : lamB body = true) (h3 : scoB scope = true)
    (hq : ∀ zs p, Rps X.K Z zs (ds.mergeSort (PySem.W.dataLe false keyL)) → zs.length ≤ sizeLine → H p = none → Q (.ref p) (upd H p (.lst zs))) : wpAny (model X.prog X.w) X.A (call (.builtin "sorted") [.ref l] [(Str.ofString "key", .ref f)]) (EP X pins σ Q) X.xe s := by
  obtain ⟨its, rv, hl, hz⟩ := I.list hh
  have e := each_rv rv r
  have hlen : ds.length = ys.length := r.length.symm
  unfold parB1 at h1
  split at h1 <;> first | (cases h1; done) | skip
  unfold lamB at h2
  split at h2 <;> first | (cases h2; done) | skip
  simp only [decide_eq_true_eq] at h1
  simp only [Bool.and_eq_true, decide_eq_true_eq] at h2
  simp only [scoB, Bool.and_eq_true, decide_eq_true_eq, Bool.not_eq_true'] at h3
  obtain ⟨rfl, rfl, rfl, rfl, rfl, rfl, rfl⟩ := h2
  subst h1
  obtain ⟨k1, k2, k3, k4⟩ := h3
  obtain ⟨⟨oc, vs, t, o1, o2, o3⟩, _, _⟩ := I.hok c' _ hco
  refine PySem.W.sorted_key_data (b := false) (bs := ds) (R := RvD X.K Z) keyL hl.isList e (keyL_alike hs) (keyL_srt hs) (by omega) (fun d hd => by have := keyL_depth (List.all_eq_true.mp hs d hd); omega)
    (PyProof.Rows.ksk_s1 _ _) (fun _ => PyProof.Rows.ksk_l1 _ _) (fun _ => PyProof.Rows.ksk_t1 _ _) (fun v d hv hd h tk kp => ?_) fun out c h' tk kp fr hD ho eo => ?_
  · obtain ⟨z, x, y, rfl⟩ := isStp_eq (List.all_eq_true.mp hs d hd)
    obtain ⟨yv, rel, rp⟩ := hv
    cases rp with
    | tup hz' hl' rr =>
      cases rr with
      | cons a1 rr =>
        cases rr with
        | cons a2 rr =>
          cases rr with
          | cons a3 rr =>
            cases rr
            cases a1
            cases a2
            cases a3
            cases rel
            obtain ⟨_, its', rv', ot, g1, g2, n, g3⟩ := I.hok _ _ (sz _ _ hz')
            cases rv' with
            | cons w1 rv' =>
              cases rv' with
              | cons w2 rv' =>
                cases rv' with
                | cons w3 rv' =>
                  cases rv'
                  obtain ⟨t1, rfl⟩ := w1
                  obtain ⟨t2, rfl⟩ := w2
                  obtain ⟨t3, rfl⟩ := w3
                  exact lam_call (s := { s with heap := h, toks := tk }) (by show (X.A.in1.in1).depth < recursionLimit; unfold Around.in1; dsimp only; omega) (I.nolimit.keeps kp) (kp _ _ hf) ⟨c', oc, vs, t, rfl, kp _ _ o1, o2, o3⟩ k1 k2 k3 k4 ⟨ot, kp _ _ g1, g2, n, g3⟩
  · obtain ⟨zs, v1, v2⟩ := rv_each eo
    have hzl : zs.length ≤ sizeLine := by rw [v1.length, ho]; omega
    exact ⟨.ref _, upd H (s.heap.objs.size + 1) (.lst zs), I.laid (t' := tk) kp (Nat.le_succ _) ⟨hzl, _, c, v1, hD⟩, rfl, hq _ _ v2 hzl (I.hok.fresh (Nat.le_succ _))⟩
/-- sorted(xs, key=lambda step: ..) -/
def tSL (X : Cx) (ca : String → Option Addr) (te : TE) : TE := fun σ H Q => te σ H fun v H1 => ∃ l ys Z ds, v = .ref l ∧ SqL X.K H1 l ys ∧ Same Z H1 ∧ NoT Z ∧ Rps X.K Z ys ds ∧ ds.all isStp = true ∧ TbOk ca H1 ∧
  ∀ H2 zs p, ExtN H1 H2 → (∀ b ps, H1 b = some (.tbl ps) → ∃ qs, H2 b = some (.tbl qs)) → TbOk ca H2 → Rps X.K Z zs (ds.mergeSort (PySem.W.dataLe false keyL)) → zs.length ≤ sizeLine → H2 p = none → Q (.ref p) (upd H2 p (.lst zs))
theorem pe_srtL {ca : String → Option Addr} {e : Expr} {te : TE} {params : Arguments} {body : Expr} {scope : Scope} {p pos lp kp : Pos} {x : String} {P c : Addr} (he : PE X e te) (hst : noStar e = true) (hg : Gl X (sN "sorted")) (hm : X.mg (sN "sorted") = none) (hu : X.A.units + 65 < cLine) (hdp : X.A.depth + 5 < recursionLimit)
    (h1 : parB1 params = true) (h2 : lamB body = true) (h3 : scoB scope = true) (l1 : ca ("<lambda> " ++ x) = some P) (l2 : X.env.qual ++ "<lambda>" = Str.ofString x) (l3 : X.env.code = .ref c) (l4 : TabB X.base X.mg c P) (l5 : ∀ y P', ca ("<lambda> " ++ y) = some P' → y ≠ x → P' ≠ P) :
    PE X (.Call (.Name (sN "sorted") p) [e] [⟨some (sN "key"), .Lambda params body scope lp, kp⟩] pos) (tSL X ca te) := by
  refine ⟨fun pins s σ H Q I h => ?_⟩
  have hsc : scope.names = [(stepS, .local)] := by
    simp only [scoB, Bool.and_eq_true, decide_eq_true_eq] at h3
    exact h3.2.2.2
  refine wpAny_Call_Name_kw (ld_blt (x := sN "sorted") (u := .builtin "sorted") I hg hm (by decide +kernel) ?_ (by decide +kernel) (by decide +kernel))
  let Q1 : List V → Hp → Prop := fun vs H1 => match vs with
    | [v] => ∃ l ys Z ds, v = .ref l ∧ SqL X.K H1 l ys ∧ Same Z H1 ∧ NoT Z ∧ Rps X.K Z ys ds ∧ ds.all isStp = true ∧ TbOk ca H1 ∧
      ∀ H2 zs p, ExtN H1 H2 → (∀ b ps, H1 b = some (.tbl ps) → ∃ qs, H2 b = some (.tbl qs)) → TbOk ca H2 → Rps X.K Z zs (ds.mergeSort (PySem.W.dataLe false keyL)) → zs.length ≤ sizeLine → H2 p = none → Q (.ref p) (upd H2 p (.lst zs))
    | _ => False
  refine PyProof.Rows.callWith_kw (thn ((pa_cons he pa_nil (star_of hst)).run pos pins s σ H Q1 I (show tCons te tNil σ H Q1 from h)) fun us s1 ⟨vs, H1, I1, r1, q1⟩ => ?_) (by rw [star_of hst]; rfl) (by rw [star_of hst]; rfl) rfl rfl
  match vs, q1 with
  | [v], q1 =>
    obtain ⟨l, ys, Z, ds, rfl, hq, sz, nz, rp, hs, tb, hk⟩ := q1
    obtain ⟨u, rfl, ru⟩ := vals1 r1
    cases ru
    have hT : TabS H1 P (X.env.qual ++ "<lambda>") := by rw [l2]; exact tb x P l1
    have hdef : defaultsOf params X.env = ([], []) := by
      unfold parB1 at h1
      split at h1
      · rfl
      · cases h1
    have hclo : cloFrom X.env.cells scope.names [] = [] := by rw [hsc]; rfl
    have hns : starEach (e :: []) X.env = (false, eval e X.env) :: starEach [] X.env := star_of hst
    show wpAny _ _ (evalAll [(do let v ← eval (.Lambda params body scope lp) X.env; standAt pos; pure v)]) _ _ s1
    refine wpAny_evalAll_cons (wpAny_bind (lam_made I1 l4 l3 hT hdef (fun y hy e => by rw [hsc] at hy; cases List.mem_singleton.mp hy; cases e) fun f c' pm ctv H2 s2 I2 kP tP hf hc => wpAny_bind (wpAny_standAt (wpAny_pure (wpAny_evalAll_nil ?_)))))
    obtain ⟨ps0, e0, _, _⟩ := id hT
    have kN : ExtN H1 H2 := fun b o e n => kP b o (fun y => by rw [y, e0] at e; exact n ps0 (Option.some.inj e).symm) e
    have sz2 : Same Z H2 := fun b o e => kN b o (sz b o e) fun ps y => nz b ps (by rw [e, y])
    have hq2 : SqL X.K H2 l ys := by
      rcases hq with (z | ⟨o, z⟩) | z
      · exact .inl (.inl (kN _ _ z fun _ y => by cases y))
      · exact .inl (.inr ⟨o, kN _ _ z fun _ y => by cases y⟩)
      · exact .inr z
    have tk : ∀ b ps, H1 b = some (.tbl ps) → ∃ qs, H2 b = some (.tbl qs) := fun b ps e => by
      by_cases hb : b = P
      · obtain ⟨qs, z, _⟩ := tP
        exact ⟨qs, by rw [hb]; exact z⟩
      · exact ⟨ps, kP b _ hb e⟩
    have tb2 : TbOk ca H2 := fun y P' e => by
      by_cases hy : y = x
      · subst hy
        rw [l1] at e
        cases e
        rw [← l2]
        exact tP
      · have hne := l5 y P' e hy
        obtain ⟨ps, w1, w2, w3⟩ := tb y P' e
        refine ⟨ps, kP P' _ hne w1, w2, fun pos' cv q => ?_⟩
        obtain ⟨c0, q1, q2⟩ := w3 pos' cv q
        exact ⟨c0, q1, kN _ _ q2 codeO_ne⟩
    rw [hclo] at hf
    exact sortL_run I2 sz2 hq2 rp hs hu hdp hf hc h1 h2 h3 fun zs p' r1 r2 r3 => hk H2 zs p' kN tk tb2 r1 r2 r3
end
end Bide

set_option autoImplicit false
set_option Elab.async false
set_option maxRecDepth 100000
set_option linter.all false
/-! Helpers for the soundness: calls, targets. -/
namespace Bide
open PySem L2
section
variable {K : PySem.W.Frag} {c : En} {σ : L2.St} {H Z H' Z' : Hp} {ev ev' : Ev} {A A' : Nat → List Addr}
def SV.lent : SV → Prop
  | .ow (.l _) => True
  | .io _ => True
  | _ => False
/-- the lent slots and their addresses -/
def Lt (A : Nat → List Addr) (ev : Ev) : List (Nat × Addr) → List Nat → Prop
  | [], [] => True
  | (_, a) :: P, i :: ls => A i = [a] ∧ (∃ sv, ev[i]? = some sv ∧ sv.lent) ∧ i ∉ ls ∧ Lt A ev P ls
  | _, _ => False
theorem Lt.mem : ∀ {P : List (Nat × Addr)} {ls : List Nat}, Lt A ev P ls → ∀ {j : Nat} {a : Addr}, (j, a) ∈ P → ∃ i ∈ ls, A i = [a]
  | [], [], _, _, _, h => by cases h
  | [], _ :: _, q, _, _, _ => q.elim
  | _ :: _, [], q, _, _, _ => q.elim
  | (_, b) :: P, i :: ls, q, j, a, h => by
    rcases List.mem_cons.mp h with e | h
    · cases e; exact ⟨i, by simp, q.1⟩
    · obtain ⟨i', h1, h2⟩ := Lt.mem q.2.2.2 h
      exact ⟨i', List.mem_cons_of_mem _ h1, h2⟩
theorem RS.lend : ∀ {bs : List Bool} {rs : List RV} {xs : List V} {ds : List D} {ls : List Nat} {ev ev' : Ev} {Z : Hp} {A : Nat → List Addr} (n : Nat), RS K c σ H Z ev A → RRs K c σ H Z ev A xs rs →
    Bide.lend ev bs rs = some (ds, ls, ev') → ∃ Z' A' P, Same Z Z' ∧ RS K c σ H Z' ev' A' ∧ Args K Z' H n bs xs ds P ∧ Lt A' ev' P ls
  | [], [], [], _, _, _, _, Z, A, n, R, _, e => by
    simp only [Bide.lend] at e
    cases e
    exact ⟨Z, A, [], Same.refl _, R, .nil n, trivial⟩
  | [], [], _ :: _, _, _, _, _, _, _, _, _, q, _ => q.elim
  | [], _ :: _, _, _, _, _, _, _, _, _, _, _, e => by simp [Bide.lend] at e
  | false :: _, [], _, _, _, _, _, _, _, _, _, _, e => by simp [Bide.lend] at e
  | true :: _, [], _, _, _, _, _, _, _, _, _, _, e => by simp [Bide.lend] at e
  | _ :: _, _ :: _, [], _, _, _, _, _, _, _, _, q, _ => q.elim
  | false :: bs, r :: rs, x :: xs, ds, ls, ev, ev', Z, A, n, R, q, e => by
    simp only [Bide.lend] at e
    split at e
    · rename_i d ev1 h1
      split at e <;> cases e
      rename_i h2
      obtain ⟨Z1, A1, s1, R1, p1⟩ := R.esc q.1 h1
      obtain ⟨Z2, A2, P, s2, R2, a2, l2⟩ := RS.lend (n + 1) R1 (q.2.later s1) h2
      exact ⟨Z2, A2, P, s1.trans s2, R2, .sh (p1.mono s2) a2, l2⟩
    · cases e
  | true :: bs, .v _ :: rs, x :: xs, ds, ls, ev, ev', Z, A, n, R, q, e => by simp [Bide.lend] at e
  | true :: bs, .f _ :: rs, x :: xs, ds, ls, ev, ev', Z, A, n, R, q, e => by simp [Bide.lend] at e
  | true :: bs, .s i :: rs, x :: xs, ds, ls, ev, ev', Z, A, n, R, q, e => by
    simp only [Bide.lend] at e
    split at e
    · rename_i ds' ls' ev2 h2
      obtain ⟨Z2, A2, P, s2, R2, a2, l2⟩ := RS.lend (n + 1) R q.2 h2
      have q1 : σ[i]? = some (some x) := q.1
      have key : ∀ (ys : List D) (sv : SV), ev2[i]? = some sv → sv.lent → (∃ a, σ[i]? = some (some (.ref a)) ∧ OC K Z2 H (A2 i) a (.l ys)) → i ∉ ls' →
          ∃ Z' A' P, Same Z Z' ∧ RS K c σ H Z' ev2 A' ∧ Args K Z' H n (true :: bs) (x :: xs) (.list ys :: ds') P ∧ Lt A' ev2 P (i :: ls') := by
        rintro ys sv hs hl ⟨a, e1, e2, zs, g1, g2, g3⟩ hn
        rw [q1] at e1
        cases e1
        refine ⟨Z2, A2, (n, a) :: P, s2, R2, .io g1 g2 g3 (R2.zo i a (by rw [e2]; simp)) (fun j hj => ?_) a2, e2, ⟨sv, hs, hl⟩, hn, l2⟩
        obtain ⟨i', hi', e'⟩ := l2.mem hj
        have : i = i' := R2.dis i i' a (by rw [e2]; simp) (by rw [e']; simp)
        subst this
        exact hn hi'
      split at e
      · rename_i ys hs
        split at e <;> cases e
        rename_i hn
        exact key ys _ hs trivial (R2.sl i _ hs) hn
      · rename_i ys hs
        split at e <;> cases e
        rename_i hn
        exact key ys _ hs trivial (R2.sl i _ hs) hn
      · cases e
    · cases e
theorem Args.io_only {n : Nat} : ∀ {bs : List Bool} {xs : List V} {ds : List D} {P : List (Nat × Addr)}, Args K Z H n bs xs ds P → ∀ j a, (j, a) ∈ P → ∃ ys, H a = some (.lst ys)
  | _, _, _, _, .nil _, _, _, h => by cases h
  | _, _, _, _, .sh _ r, j, a, h => Args.io_only r j a h
  | _, _, _, _, .io g _ _ _ _ r, j, a, h => by
    rcases List.mem_cons.mp h with e | h
    · cases e; exact ⟨_, g⟩
    · exact Args.io_only r j a h
def SV.put : SV → List D → SV
  | .io _, xs => .io xs
  | _, xs => .ow (.l xs)
/-- what comes back -/
theorem giveBack_ok : ∀ {ls : List Nat} {outs : List (List D)} {ev ev' : Ev}, ls.Nodup → giveBack ev ls outs = some ev' → ev'.length = ev.length ∧ (∀ i, i ∉ ls → ev'[i]? = ev[i]?) ∧
    ls.length = outs.length ∧ ∀ (j i : Nat) ys, ls[j]? = some i → outs[j]? = some ys → ∃ sv, ev[i]? = some sv ∧ ev'[i]? = some (sv.put ys) ∧ (sv.isIo ∨ ∃ o, sv = .ow o)
  | [], [], ev, ev', _, e => by
    simp only [giveBack] at e
    cases e
    exact ⟨rfl, fun _ _ => rfl, rfl, fun j i ys h => by simp at h⟩
  | [], _ :: _, _, _, _, e => by simp [giveBack] at e
  | _ :: _, [], _, _, _, e => by simp [giveBack] at e
  | i :: ls, xs :: outs, ev, ev', nd, e => by
    have nd' := List.nodup_cons.mp nd
    simp only [giveBack] at e
    have key : ∀ (sv : SV), ev[i]? = some sv → (sv.isIo ∨ ∃ o, sv = .ow o) → giveBack (ev.set i (sv.put xs)) ls outs = some ev' → ev'.length = ev.length ∧ (∀ j, j ∉ i :: ls → ev'[j]? = ev[j]?) ∧
        (i :: ls).length = (xs :: outs).length ∧ ∀ (j i' : Nat) ys, (i :: ls)[j]? = some i' → (xs :: outs)[j]? = some ys → ∃ sv, ev[i']? = some sv ∧ ev'[i']? = some (sv.put ys) ∧ (sv.isIo ∨ ∃ o, sv = .ow o) := by
      intro sv hs hv hg
      obtain ⟨h1, h2, h3, h4⟩ := giveBack_ok nd'.2 hg
      have hi : i < ev.length := (List.getElem?_eq_some_iff.mp hs).1
      refine ⟨by rw [h1]; simp, fun j hj => ?_, by simp [h3], fun j i' ys e1 e2 => ?_⟩
      · have hj' : j ≠ i ∧ j ∉ ls := by simpa using hj
        rw [h2 j hj'.2, List.getElem?_set_ne (Ne.symm hj'.1)]
      · cases j with
        | zero =>
          simp at e1 e2
          subst e1 e2
          exact ⟨sv, hs, by rw [h2 _ nd'.1, List.getElem?_set_self hi], hv⟩
        | succ j =>
          simp at e1 e2
          obtain ⟨sv', g1, g2, g3⟩ := h4 j i' ys e1 e2
          have hne : i ≠ i' := fun z => nd'.1 (z ▸ List.mem_of_getElem? e1)
          rw [List.getElem?_set_ne hne] at g1
          exact ⟨sv', g1, g2, g3⟩
    split at e
    · rename_i o hs
      exact key _ hs (.inr ⟨o, rfl⟩) e
    · rename_i o hs
      exact key _ hs (.inl trivial) e
    · cases e
theorem Lt.nodup : ∀ {P : List (Nat × Addr)} {ls : List Nat}, Lt A ev P ls → ls.Nodup
  | [], [], _ => .nil
  | [], _ :: _, q => q.elim
  | _ :: _, [], q => q.elim
  | _ :: _, i :: ls, q => List.nodup_cons.mpr ⟨q.2.2.1, Lt.nodup q.2.2.2⟩
theorem Lt.at : ∀ {P : List (Nat × Addr)} {ls : List Nat} {outs : List (List D)}, Lt A ev P ls → Outs K Z' H' P outs → ∀ (j i : Nat), ls[j]? = some i → ∃ a ys xs, outs[j]? = some ys ∧ A i = [a] ∧ H' a = some (.lst xs) ∧ xs.length ≤ sizeLine ∧ Rps K Z' xs ys
  | [], [], _, _, _, _, _, h => by simp at h
  | [], _ :: _, _, q, _, _, _, _ => q.elim
  | _ :: _, [], _, q, _, _, _, _ => q.elim
  | (_, a) :: P, i :: ls, _, q, .cons g1 g2 g3 g4 r, j, i', h => by
    cases j with
    | zero =>
      simp at h
      subst h
      exact ⟨a, _, _, rfl, q.1, g1, g2, g3⟩
    | succ j =>
      simp at h
      exact Lt.at q.2.2.2 r j i' h
/-- behind a call -/
theorem RS.called (R : RS K c σ H Z ev A) {P : List (Nat × Addr)} {ls : List Nat} {outs : List (List D)} (l : Lt A ev P ls) (p : Post c.ca Z H Z' H' P) (o : Outs K Z' H' P outs) (g : giveBack ev ls outs = some ev') : RS K c σ H' Z' ev' A := by
  obtain ⟨g1, g2, g3, g4⟩ := giveBack_ok l.nodup g
  have nP : ∀ (i : Nat) (a : Addr), a ∈ A i → i ∉ ls → ∀ j, (j, a) ∉ P := fun i a ha hi j hj => by
    obtain ⟨i', h1, h2⟩ := l.mem hj
    have : i = i' := R.dis i i' a ha (by rw [h2]; simp)
    subst this
    exact hi h1
  have dead : ∀ q, H q = none → c.H q = none := fun q e => R.dead e
  have mem : ∀ (i : Nat), i ∈ ls → ∃ j : Nat, ls[j]? = some i := fun i hi => List.mem_iff_getElem?.mp hi
  exact {
    len := by rw [g1]; exact R.len
    sub := p.sub
    z0 := R.z0.trans p.zz
    zf := fun q u e => by
      rcases p.zf q u e with z | z | z
      · exact R.zf q u z
      · exact .inr (.inl (dead q z))
      · exact .inr (.inr z)
    fr := fun q u e n t => by
      refine p.fr q u (R.fr q u e n t) (fun j hj => ?_) t
      obtain ⟨i, _, h2⟩ := l.mem hj
      rcases R.ao i q (by rw [h2]; simp) with ⟨i', z⟩ | z
      · exact n i' z
      · rw [z] at e; cases e
    tk := fun q ps e => by
      obtain ⟨qs, h⟩ := R.tk q ps e
      exact p.tk q qs h
    nz := p.nz
    tb := p.tb
    sl := fun i sv e => by
      by_cases hi : i ∈ ls
      · obtain ⟨j, hj⟩ := mem i hi
        obtain ⟨a, ys, xs, q1, q2, q3, q4, q5⟩ := l.at o j i hj
        obtain ⟨sv', w1, w2, w3⟩ := g4 j i ys hj q1
        rw [w2] at e
        cases e
        have old := R.sl i sv' w1
        rcases w3 with w3 | ⟨ov, rfl⟩
        · cases sv' with
          | io ds =>
            obtain ⟨b, b1, b2⟩ := old
            have hb := b2.1
            rw [q2] at hb
            cases hb
            exact ⟨a, b1, q2, xs, q3, q4, q5⟩
          | _ => exact w3.elim
        · obtain ⟨b, b1, b2⟩ := old
          have hb : b = a := by
            have := b2.mem
            rw [q2] at this
            simpa using this
          subst hb
          exact ⟨b, b1, q2, xs, q3, q4, q5⟩
      · rw [g2 i hi] at e
        exact (R.sl i sv e).mono p.zz fun b hb u q => p.fr b u q (nP i b hb hi) fun ps e' => by subst e'; exact R.noTbl hb ps q
    out := fun i hi => R.out i (by rw [← g1]; exact hi)
    zo := fun i a ha => by
      cases q : Z' a with
      | none => rfl
      | some u =>
        rcases p.zf a u q with z | z | z
        · rw [R.zo i a ha] at z; cases z
        · exact absurd z (R.alive ha)
        · have e := p.sub a u q
          obtain ⟨ys, rfl⟩ := z
          by_cases hi : i ∈ ls
          · obtain ⟨j, hj⟩ := mem i hi
            obtain ⟨b, ys', xs, q1, q2, q3, q4, q5⟩ := l.at o j i hj
            rw [q2] at ha
            cases List.mem_singleton.mp ha
            rw [q3] at e; cases e
          · cases y : H a with
            | none => exact absurd y (R.alive ha)
            | some u' =>
              rw [p.fr a u' y (nP i a ha hi) fun ps e' => by subst e'; exact R.noTbl ha ps y] at e
              cases e
              exact absurd y (R.noTup ha _ ⟨ys, rfl⟩)
    ao := R.ao
    dis := R.dis
    nod := R.nod
    io := fun i a h => by
      obtain ⟨h1, ds, h2⟩ := R.io i a h
      refine ⟨h1, ?_⟩
      by_cases hi : i ∈ ls
      · obtain ⟨j, hj⟩ := mem i hi
        obtain ⟨_, ys, _, q1, _⟩ := l.at o j i hj
        obtain ⟨sv', w1, w2, w3⟩ := g4 j i ys hj q1
        rw [h2] at w1
        cases w1
        exact ⟨ys, w2⟩
      · exact ⟨ds, by rw [g2 i hi]; exact h2⟩
    oi := fun i ds h => by
      by_cases hi : i ∈ ls
      · obtain ⟨j, hj⟩ := mem i hi
        obtain ⟨_, ys, _, q1, _⟩ := l.at o j i hj
        obtain ⟨sv', w1, w2, w3⟩ := g4 j i ys hj q1
        rw [w2] at h
        cases sv' with
        | io d' => exact R.oi i d' w1
        | _ => simp [SV.put] at h
      · rw [g2 i hi] at h
        exact R.oi i ds h
    pf := fun q u e => by
      obtain ⟨h1, h2, h3⟩ := R.pf q u e
      have nt : ∀ ps, u ≠ .tbl ps := fun ps e' => by subst e'; exact R.fz q ps e
      refine ⟨p.fr q u h1 (fun j hj => ?_) nt, ?_, h3⟩
      · obtain ⟨i, _, z⟩ := l.mem hj
        exact h3 i (by rw [z]; simp)
      · cases z : Z' q with
        | none => rfl
        | some u' =>
          rcases p.zf q u' z with y | y | y
          · rw [h2] at y; cases y
          · rw [h1] at y; cases y
          · have e2 := p.fr q u h1 (fun j hj => by
              obtain ⟨i, _, z⟩ := l.mem hj
              exact h3 i (by rw [z]; simp)) nt
            rw [p.sub q u' z] at e2
            cases e2
            exact absurd y (R.ft q u e)
    ft := R.ft
    fz := R.fz }
/-- a result of a call -/
theorem RS.newR (R : RS K c σ H Z ev A) {x : V} {r : RV} (n : New K H Z' H' x r) {ev'' : Ev} : RR K c σ H' Z' ev'' A x r := by
  cases r with
  | v d => exact n
  | s i => exact n.elim
  | f o =>
    obtain ⟨a, as, e, oc, nd, hb⟩ := n
    exact ⟨a, as, e, oc, nd, fun b hm => ⟨(hb b hm).1, R.dead (hb b hm).2, R.fFree (hb b hm).2, fun i hi => R.alive hi (hb b hm).2⟩⟩
end

/-! ### targets -/
def gNames : List Nat → TGs
  | [] => gNil
  | i :: is => gCons (gName i) (gNames is)
def gTg (K : PySem.W.Frag) (tup : Bool) (tg : List Nat) : TG := match tup, tg with
  | false, [i] => gName i
  | false, _ => fun _ _ _ _ => False
  | true, is => gTup K is.length (gNames is)
section
variable {X : Cx} {N : List Str} {fb : Str → Bool} {sc : Scope}
theorem wr_loc {i : Nat} {x : Str} (h : wrSlot N X.env.scope fb i x = true) (hf : ∀ x, fb x = true → X.fn x = true) : N[i]? = some x ∧ Loc X.env.scope x ∧ (X.fn x = true ∨ X.env.scope.names.lookup x = some .local) := by
  unfold wrSlot at h
  obtain ⟨h1, h2⟩ := Bool.and_eq_true_iff.mp h
  refine ⟨of_decide_eq_true h1, ?_⟩
  split at h2
  · rename_i e; exact ⟨.inl e, .inr e⟩
  · rename_i e; exact ⟨.inr e, .inl (hf x h2)⟩
  · cases h2
theorem sndTgs (hN : X.N = N) (hnd : X.N.Nodup) (hf : ∀ x, fb x = true → X.fn x = true) : ∀ {is : List Nat} {es : List Expr}, mTgs N X.env.scope fb is es = true →
    PGs X es (gNames is) ∧ (assignEach es X.env).length = is.length ∧ (assignEach es X.env).findIdx? (·.1) = none
  | [], [], _ => ⟨pgs_nil, rfl, rfl⟩
  | [], _ :: _, h => by simp [mTgs] at h
  | _ :: _, [], h => by simp [mTgs] at h
  | i :: is, e :: es, h => by
    cases e <;> first | (simp [mTgs] at h; done) | skip
    simp only [mTgs, Bool.and_eq_true] at h
    obtain ⟨h1, h2, h3⟩ := wr_loc h.1 hf
    obtain ⟨q1, q2, q3⟩ := sndTgs hN hnd hf h.2
    refine ⟨pgs_cons (pg_name hnd (by rw [hN]; exact h1) h2 h3) q1 rfl, by simp [assignEach,q2], ?_⟩
    simp [assignEach,List.findIdx?_cons,q3]
theorem sndTg (hN : X.N = N) (hnd : X.N.Nodup) (hc : X.calm = true) (hf : ∀ x, fb x = true → X.fn x = true) {tup : Bool} {tg : List Nat} {e : Expr} (h : mTg N X.env.scope fb tup tg e = true) : PG X e (gTg X.K tup tg) := by
  cases tup with
  | false =>
    match tg, e, h with
    | [i], .Name x p, h =>
      have h' : wrSlot N X.env.scope fb i x = true := h
      obtain ⟨h1, h2, h3⟩ := wr_loc h' hf
      exact pg_name hnd (by rw [hN]; exact h1) h2 h3
  | true =>
    cases e <;> first | (simp [mTg] at h; done) | skip
    have h' : mTgs N X.env.scope fb tg _ = true := h
    obtain ⟨q1, q2, q3⟩ := sndTgs hN hnd hf h'
    exact pg_tup hc q1 q2 q3
end
section
variable {K : PySem.W.Frag} {c : En} {σ : L2.St} {H Z : Hp} {ev ev' : Ev} {A : Nat → List Addr}
/-- these slots' values are set -/
def setsS : L2.St → List Nat → List V → L2.St
  | σ, i :: is, v :: vs => setsS (σ.set i (some v)) is vs
  | σ, _, _ => σ
theorem RS.setV (R : RS K c σ H Z ev A) {i : Nat} {x : V} {d : D} (r : Rp K Z x d) (e : Bide.setV ev i (.sh d) = some ev') : ∃ A', RS K c (σ.set i (some x)) H Z ev' A' := by
  unfold Bide.setV at e
  split at e
  · cases e
  · cases e
  · rename_i h1 h2
    cases e
    cases hs : ev[i]? with
    | none => exact absurd hs h2
    | some sv => exact ⟨_, R.setSh hs (fun z => by cases sv with
      | io ds => exact h1 ds hs
      | _ => exact z) r⟩
theorem RS.setVs : ∀ {is : List Nat} {xs : List V} {ds : List D} {σ : L2.St} {ev ev' : Ev} {A : Nat → List Addr}, RS K c σ H Z ev A → Rps K Z xs ds → Bide.setVs ev is ds = some ev' →
    ∃ A', RS K c (setsS σ is xs) H Z ev' A' ∧ is.length = xs.length
  | [], _, _, σ, ev, ev', A, R, .nil, e => by cases e; exact ⟨A, R, rfl⟩
  | [], _, _, _, _, _, _, _, .cons _ _, e => by simp [Bide.setVs] at e
  | _ :: _, _, _, _, _, _, _, _, .nil, e => by simp [Bide.setVs] at e
  | i :: is, _, _, σ, ev, ev', A, R, .cons h r, e => by
    simp only [Bide.setVs] at e
    split at e
    · rename_i ev1 h1
      obtain ⟨A1, R1⟩ := R.setV h h1
      obtain ⟨A2, R2, l2⟩ := RS.setVs R1 r e
      exact ⟨A2, R2, by simp [l2]⟩
    · cases e
theorem gNames_ok : ∀ {is : List Nat} {xs : List V} {σ : L2.St} {Q : L2.St → Hp → Prop}, is.length = xs.length → Q (setsS σ is xs) H → gNames is xs σ H Q
  | [], [], _, _, _, q => ⟨rfl, q⟩
  | [], _ :: _, _, _, h, _ => by simp at h
  | _ :: _, [], _, _, h, _ => by simp at h
  | i :: is, x :: xs, σ, Q, h, q => ⟨x, xs, rfl, gNames_ok (σ := σ.set i (some x)) (by simpa using h) q⟩
/-- a target takes a value -/
theorem RS.bindTg (R : RS K c σ H Z ev A) {tup : Bool} {tg : List Nat} {x : V} {d : D} (r : Rp K Z x d) (e : Bide.bindTg tup tg ev d = some ev') {Q : L2.St → Hp → Prop}
    (h : ∀ xs A', RS K c (setsS σ tg xs) H Z ev' A' → Q (setsS σ tg xs) H) : gTg K tup tg x σ H Q := by
  cases tup with
  | false =>
    unfold Bide.bindTg at e
    obtain ⟨A', R', l⟩ := R.setVs (.cons r .nil) e
    match tg, l with
    | [i], _ => exact h [x] A' R'
  | true =>
    cases d <;> (simp only [Bide.bindTg] at e) <;> first | (cases e; done) | skip
    cases r with
    | tup h1 h2 h3 =>
      obtain ⟨A', R', l⟩ := R.setVs h3 e
      exact ⟨_, _, rfl, .inl (.inl (R.sub _ _ h1)), l.symm, gNames_ok l (h _ A' R')⟩
theorem RS.unl (R : RS K c σ H Z ev A) {tg : List Nat} {x : V} {ds : List D} (r : Rp K Z x (.list ds)) (e : Bide.setVs ev tg ds = some ev') {Q : L2.St → Hp → Prop}
    (h : ∀ xs A', RS K c (setsS σ tg xs) H Z ev' A' → Q (setsS σ tg xs) H) : gUnl K tg.length (gNames tg) x σ H Q := by
  cases r with
  | lst h1 h2 h3 =>
    obtain ⟨A', R', l⟩ := R.setVs h3 e
    exact ⟨_, _, rfl, .inl (.inl (R.sub _ _ h1)), l.symm, gNames_ok l (h _ A' R')⟩
theorem setsS_wipe {own : List Nat} : ∀ {is : List Nat} {xs : List V} {σ : L2.St}, (∀ i ∈ is, i ∈ own) → wipe (setsS σ is xs) own = wipe σ own
  | [], _, _, _ => rfl
  | _ :: _, [], _, _ => rfl
  | i :: is, x :: xs, σ, h => by
    have one : ∀ (own : List Nat) (σ : L2.St), i ∈ own → wipe (σ.set i (some x)) own = wipe σ own := by
      intro own
      induction own with
      | nil => intro σ hm; cases hm
      | cons j js ih =>
        intro σ hm
        unfold wipe
        by_cases hj : i ∈ js
        · rw [ih σ hj]
        · have hij : i = j := by
            rcases List.mem_cons.mp hm with z | z
            · exact z
            · exact absurd z hj
          subst hij
          have com : ∀ (ks : List Nat) (σ : L2.St), i ∉ ks → (wipe (σ.set i (some x)) ks) = (wipe σ ks).set i (some x) := by
            intro ks
            induction ks with
            | nil => intro σ _; rfl
            | cons k ks ih2 =>
              intro σ hk
              have hk' : i ≠ k ∧ i ∉ ks := by simpa using hk
              unfold wipe
              rw [ih2 σ hk'.2, List.set_comm _ _ hk'.1]
          rw [com js σ hj, List.set_set]
    show wipe (setsS (σ.set i (some x)) is xs) own = _
    rw [setsS_wipe fun j hj => h j (List.mem_cons_of_mem _ hj)]
    exact one own σ (h i List.mem_cons_self)
end
end Bide

set_option autoImplicit false
set_option Elab.async false
set_option maxRecDepth 100000
set_option linter.all false
/-! Helpers for the soundness: a block's own names, its turns. -/
namespace Bide
open PySem L2
section
variable {K : PySem.W.Frag} {c : En} {σ : L2.St} {H Z H' Z' H1 Z1 : Hp} {ev ev' ev0 : Ev} {A A' : Nat → List Addr}
theorem wipeE_ok : ∀ {own : List Nat} {ev ev0 : Ev}, wipeE ev own = some ev0 → ev0.length = ev.length ∧ (∀ i, i ∉ own → ev0[i]? = ev[i]?) ∧ ∀ i ∈ own, ev0[i]? = some .no ∧ (ev[i]? = some .no ∨ ∃ d, ev[i]? = some (.sh d))
  | [], ev, ev0, e => by cases e; exact ⟨rfl, fun _ _ => rfl, fun i h => by cases h⟩
  | i :: is, ev, ev0, e => by
    simp only [wipeE] at e
    split at e
    · rename_i ev1 h1
      obtain ⟨q1, q2, q3⟩ := wipeE_ok h1
      have back : ∀ sv, ev1[i]? = some sv → (sv = .no ∨ ∃ d, sv = .sh d) → (ev[i]? = some .no ∨ ∃ d, ev[i]? = some (.sh d)) := fun sv hs hv => by
        by_cases hi : i ∈ is
        · exact (q3 i hi).2
        · rw [q2 i hi] at hs
          rcases hv with rfl | ⟨d, rfl⟩
          · exact .inl hs
          · exact .inr ⟨d, hs⟩
      split at e <;> cases e
      · rename_i hs
        refine ⟨q1, fun j hj => q2 j (fun z => hj (List.mem_cons_of_mem _ z)), fun j hj => ?_⟩
        rcases List.mem_cons.mp hj with rfl | hj
        · exact ⟨hs, back _ hs (.inl rfl)⟩
        · exact q3 j hj
      · rename_i d hs
        have hlt : i < ev1.length := (List.getElem?_eq_some_iff.mp hs).1
        refine ⟨by rw [List.length_set]; exact q1, fun j hj => ?_, fun j hj => ?_⟩
        · have hj' : j ≠ i ∧ j ∉ is := by simpa using hj
          rw [List.getElem?_set_ne (Ne.symm hj'.1)]
          exact q2 j hj'.2
        · by_cases hji : j = i
          · subst hji
            exact ⟨List.getElem?_set_self hlt, back _ hs (.inr ⟨d, rfl⟩)⟩
          · rw [List.getElem?_set_ne (Ne.symm hji)]
            rcases List.mem_cons.mp hj with z | z
            · exact absurd z hji
            · exact q3 j z
    · cases e
theorem wipe_in : ∀ {own : List Nat} {σ : L2.St} {i : Nat}, i ∈ own → ∀ x, (wipe σ own)[i]? ≠ some (some x) := by
  intro own σ i hi x h
  exact (wipe_some h).2 hi
theorem wipe_wipe : ∀ {own : List Nat} {σ : L2.St}, wipe (wipe σ own) own = wipe σ own := by
  intro own σ
  apply List.ext_getElem?
  intro i
  by_cases hi : i ∈ own
  · have h1 : ∀ (τ : L2.St), (wipe τ own)[i]? = if i < τ.length then some none else none := by
      intro τ
      by_cases hl : i < τ.length
      · rw [if_pos hl]
        have hl' : i < (wipe τ own).length := by rw [wipe_length]; exact hl
        rw [List.getElem?_eq_getElem hl']
        congr 1
        cases q : (wipe τ own)[i] with
        | none => rfl
        | some x => exact absurd (by rw [List.getElem?_eq_getElem hl', q]) (wipe_in (σ := τ) hi x)
      · rw [if_neg hl, List.getElem?_eq_none (by rw [wipe_length]; omega)]
    rw [h1, h1, wipe_length]
  · rw [wipe_out hi]
/-- a block begins -/
theorem RS.wiped (R : RS K c σ H Z ev A) {own : List Nat} (e : wipeE ev own = some ev0) : RS K c (wipe σ own) H Z ev0 A := by
  obtain ⟨q1, q2, q3⟩ := wipeE_ok e
  have emp : ∀ i ∈ own, A i = [] := fun i hi => by
    rcases (q3 i hi).2 with h | ⟨d, h⟩
    · exact R.sl i _ h
    · exact (R.sl i _ h).1
  exact {
    len := by rw [wipe_length, q1]; exact R.len
    sub := R.sub
    z0 := R.z0
    zf := R.zf
    fr := R.fr
    tk := R.tk
    nz := R.nz
    tb := R.tb
    sl := fun i sv h => by
      by_cases hi : i ∈ own
      · rw [(q3 i hi).1] at h
        cases h
        exact emp i hi
      · rw [q2 i hi] at h
        rw [wipe_out hi]
        exact R.sl i sv h
    out := fun i hi => R.out i (by rw [← q1]; exact hi)
    zo := R.zo
    ao := R.ao
    dis := R.dis
    nod := R.nod
    io := fun i a h => by
      obtain ⟨h1, ds, h2⟩ := R.io i a h
      refine ⟨h1, ds, ?_⟩
      by_cases hi : i ∈ own
      · rw [emp i hi] at h1; cases h1
      · rw [q2 i hi]; exact h2
    oi := fun i ds h => by
      by_cases hi : i ∈ own
      · rw [(q3 i hi).1] at h; cases h
      · rw [q2 i hi] at h; exact R.oi i ds h
    pf := R.pf
    ft := R.ft
    fz := R.fz }
theorem unwipe_len (ev0 : Ev) : ∀ {own : List Nat} {ev : Ev}, (unwipe ev0 ev own).length = ev.length
  | [], _ => rfl
  | i :: is, ev => by simp [unwipe,unwipe_len ev0 (own := is)]
theorem unwipe_out (ev0 : Ev) : ∀ {own : List Nat} {ev : Ev} {i : Nat}, i ∉ own → (unwipe ev0 ev own)[i]? = ev[i]?
  | [], _, _, _ => rfl
  | j :: js, ev, i, h => by
    have h' : i ≠ j ∧ i ∉ js := by simpa using h
    simp only [unwipe]
    rw [List.getElem?_set_ne (Ne.symm h'.1)]
    exact unwipe_out ev0 h'.2
theorem unwipe_in (ev0 : Ev) : ∀ {own : List Nat} {ev : Ev} {i : Nat}, i ∈ own → i < ev.length → (unwipe ev0 ev own)[i]? = some (ev0[i]?.getD .no)
  | [], _, _, h, _ => by cases h
  | j :: js, ev, i, h, l => by
    simp only [unwipe]
    by_cases hij : i = j
    · subst hij
      rw [List.getElem?_set_self (by rw [unwipe_len]; exact l)]
    · rw [List.getElem?_set_ne (Ne.symm hij)]
      rcases List.mem_cons.mp h with z | z
      · exact absurd z hij
      · exact unwipe_in ev0 z l
/-- a block ends -/
theorem RS.unwiped (R1 : RS K c σ H1 Z1 ev A) {own : List Nat} {evs : Ev} (e1 : wipeE ev own = some evs) (R : RS K c (wipe σ own) H Z ev0 A') (e : wipeE ev' own = some ev0) (s : Same Z1 Z) : RS K c σ H Z (unwipe ev ev' own) A' := by
  obtain ⟨q1, q2, q3⟩ := wipeE_ok e
  obtain ⟨p1, p2, p3⟩ := wipeE_ok e1
  have emp : ∀ i ∈ own, A' i = [] := fun i hi => R.sl i _ (q3 i hi).1
  have hl : σ.length = ev'.length := by rw [← q1, ← R.len, wipe_length]
  exact {
    len := by rw [unwipe_len]; exact hl
    sub := R.sub
    z0 := R.z0
    zf := R.zf
    fr := R.fr
    tk := R.tk
    nz := R.nz
    tb := R.tb
    sl := fun i sv h => by
      by_cases hi : i ∈ own
      · have hlt : i < ev'.length := by
          rw [← unwipe_len ev (own := own)]
          exact (List.getElem?_eq_some_iff.mp h).1
        rw [unwipe_in ev hi hlt] at h
        cases h
        rw [emp i hi]
        rcases (p3 i hi).2 with z | ⟨d, z⟩
        · rw [z]; exact rfl
        · rw [z]
          obtain ⟨_, v, g1, g2⟩ := R1.sl i _ z
          exact ⟨rfl, v, g1, g2.mono s⟩
      · rw [unwipe_out ev hi, ← q2 i hi] at h
        have := R.sl i sv h
        rw [wipe_out hi] at this
        exact this
    out := fun i hi => R.out i (by rw [q1]; rw [unwipe_len] at hi; exact hi)
    zo := R.zo
    ao := R.ao
    dis := R.dis
    nod := R.nod
    io := fun i a h => by
      obtain ⟨h1, ds, h2⟩ := R.io i a h
      refine ⟨h1, ds, ?_⟩
      by_cases hi : i ∈ own
      · rw [emp i hi] at h1; cases h1
      · rw [unwipe_out ev hi, ← q2 i hi]; exact h2
    oi := fun i ds h => by
      by_cases hi : i ∈ own
      · have hlt : i < ev'.length := by
          rw [← unwipe_len ev (own := own)]
          exact (List.getElem?_eq_some_iff.mp h).1
        rw [unwipe_in ev hi hlt] at h
        rcases (p3 i hi).2 with z | ⟨d, z⟩ <;> (rw [z] at h; cases h)
      · rw [unwipe_out ev hi, ← q2 i hi] at h
        exact R.oi i ds h
    pf := R.pf
    ft := R.ft
    fz := R.fz }
theorem lcL_wiped {own tg : List Nat} {tup : Bool} {t : Ev → R Bool} {f : Ev → R RV} : ∀ {ds acc : List D} {ev : Ev} {r : List D} {e : Ev}, lcL own tg tup t f ds acc ev = .ok r e → ∃ ev0, wipeE ev own = some ev0
  | [], acc, ev, r, e, h => by
    simp only [lcL] at h
    split at h
    · rename_i h1; exact ⟨_, h1⟩
    · cases h
  | d :: ds, acc, ev, r, e, h => by
    simp only [lcL] at h
    split at h
    · rename_i h1; exact ⟨_, h1⟩
    · cases h
theorem lcLL_wiped {own tg : List Nat} {tup : Bool} {f : Ev → R RV} : ∀ {ds : List D} {acc : List (List D)} {ev : Ev} {r : List (List D)} {e : Ev}, lcLL own tg tup f ds acc ev = .ok r e → ∃ ev0, wipeE ev own = some ev0
  | [], acc, ev, r, e, h => by
    simp only [lcLL] at h
    split at h
    · rename_i h1; exact ⟨_, h1⟩
    · cases h
  | d :: ds, acc, ev, r, e, h => by
    simp only [lcLL] at h
    split at h
    · rename_i h1; exact ⟨_, h1⟩
    · cases h
end
/-- an evaluation, whatever is kept meanwhile; nothing is raised -/
def Wd.blk (w : Wd) (c : En) : Wd := { w with c := c, W := fun _ _ _ _ => False }
def anyE (w : Wd) (e : E) : TE := fun σ H Q => ∃ c : En, c.ca = w.c.ca ∧ semE (w.blk c) e σ H Q
def anyC (w : Wd) (t : C) : TT := fun σ H Q => ∃ c : En, c.ca = w.c.ca ∧ semC (w.blk c) t σ H Q
section
variable {w : Wd} {σ : L2.St} {H Z H1 Z1 : Hp} {ev evs : Ev} {A : Nat → List Addr}
/-- the turns of a comprehension -/
theorem lc_turns {own tg : List Nat} {tup : Bool} {cd : C} {e : E} {ds xs : List D} {e2 : Ev} {J : L2.It} {Q : VK} (ho : ∀ i ∈ tg, i ∈ own) (wk : WalkOkF w.K J Z w.c.F ds) (R : RS w.K w.c σ H Z ev A) (hw : wipeE ev own = some evs)
    (hl : lcL own tg tup (evC w.cf cd) (evE w.cf e) ds [] ev = .ok xs e2)
    (hQ : Out w σ Z (.ok (.f (.l xs)) (unwipe ev e2 own)) fun r ev' H' Z' A' => ∀ x, RR w.K w.c σ H' Z' ev' A' x r → Q x H') :
    ∀ dA, H dA = none → ∃ W : Nat → Nat → Hp → Prop, (∃ m, W 0 m (upd H dA (.lst []))) ∧ ∀ i m H, W i m H →
      (J.stop i H ∧ Q (.ref dA) H) ∨ (J.go i H ∧ ∃ Nx : Hp → Prop, (∀ H', Nx H' → ∃ m', m' < m ∧ W (i + 1) m' H') ∧ ∀ x H', J.yld i H x H' → gTg w.K tup tg x (wipe σ own) H' fun σ2 H2 => wipe σ2 own = wipe σ own ∧ anyC w cd σ2 H2 fun b H3 =>
        if b = true then anyE w e σ2 H3 fun y H4 => ∃ acc, H4 dA = some (.lst acc) ∧ acc.length < sizeLine ∧ Nx (upd H4 dA (.lst (acc ++ [y]))) else Nx H3) := by
  intro dA hD
  obtain ⟨hsz, G, Y, wlk, hG, hY⟩ := wk
  obtain ⟨n1, n2, n3, n4⟩ := R.notin hD
  refine lc_it wlk (fun i H' => ∃ (acc : List D) (av : List V) (ev' ev0 : Ev) (Z' : Hp) (A' : Nat → List Addr), Same Z Z' ∧ wipeE ev' own = some ev0 ∧ RS w.K w.c (wipe σ own) H' Z' ev0 A' ∧ H' dA = some (.lst av) ∧ Rps w.K Z' av acc ∧ Z' dA = none ∧
      (∀ i, dA ∉ A' i) ∧ av.length ≤ i ∧ lcL own tg tup (evC w.cf cd) (evE w.cf e) (ds.drop i) acc ev' = .ok xs e2)
    ⟨[], [], ev, evs, Z, A, Same.refl _, hw, (R.wiped hw).fresh hD, upd_same, .nil, n1, n4, Nat.le_refl _, hl⟩ (fun i H' _ h => ?_) (fun i x H' H'' hi h y => ?_) (fun H' h => ?_)
  · obtain ⟨_, _, _, _, Z', _, s, _, R', _⟩ := h
    exact hG Z' H' s R'.sub fun p o e => (R'.pf p o e).1
  · obtain ⟨acc, av, ev', ev0, Z', A', s, hw', R', hd, ra, zd, ad, la, hl'⟩ := h
    obtain ⟨Z2, d, hdi, g, rp⟩ := hY i H' x H'' Z' hi y s R'.sub fun p o e => (R'.pf p o e).1
    have R2 := R'.ext g.zz g.sub g.zf g.nt g.hh
    have hd2 : H'' dA = some (.lst av) := g.hh _ _ hd
    have zd2 : Z2 dA = none := by
      cases q : Z2 dA with
      | none => rfl
      | some u =>
        rcases g.zf dA u q with z | z | ⟨ys, rfl⟩
        · rw [zd] at z; cases z
        · rw [hd] at z; cases z
        · have z := g.sub dA _ q
          rw [hd2] at z; cases z
    have Rh := R2.hold (as := [dA]) (fun p hp => by
      cases List.mem_singleton.mp hp
      exact ⟨by rw [hd2]; simp, zd2, ad⟩) (fun p hp xs hx => by
      cases List.mem_singleton.mp hp
      rw [hd2] at hx; cases hx) (fun p hp xs hx => by
      cases List.mem_singleton.mp hp
      rw [hd2] at hx; cases hx)
    have un : ∀ {σ' : L2.St} {H3 Z3 : Hp} {ev3 : Ev} {A3 : Nat → List Addr}, RS w.K (w.c.hold H'' [dA]) σ' H3 Z3 ev3 A3 → RS w.K w.c σ' H3 Z3 ev3 A3 ∧ H3 dA = some (.lst av) ∧ Z3 dA = none ∧ ∀ i, dA ∉ A3 i := fun R3 => by
      obtain ⟨q1, q2⟩ := R3.unhold fun p hp => by cases List.mem_singleton.mp hp; exact n3
      exact ⟨q1, q2 dA (by simp) _ hd2⟩
    have hdr : ds.drop i = d :: ds.drop (i + 1) := by
      have := List.getElem?_eq_some_iff.mp hdi
      rw [← this.2]
      exact List.drop_eq_getElem_cons this.1
    rw [hdr] at hl'
    simp only [lcL, hw'] at hl'
    split at hl'
    · rename_i ev1 hb
      refine RS.bindTg Rh rp hb fun vs A1 R3 => ?_
      have hσ : wipe (setsS (wipe σ own) tg vs) own = wipe σ own := by rw [setsS_wipe ho, wipe_wipe]
      refine ⟨hσ, w.c.hold H'' [dA], rfl, ev1, Z2, A1, R3, ?_⟩
      show Out (w.blk (w.c.hold H'' [dA])) _ Z2 (evC w.cf cd ev1) _
      cases hc : evC w.cf cd ev1 with
      | bad => rw [hc] at hl'; cases hl'
      | ex x' e' => rw [hc] at hl'; cases hl'
      | ok b ev2 =>
        rw [hc] at hl'
        intro H3 Z3 A3 s3 R4
        cases b with
        | false =>
          rw [if_neg (by simp)]
          obtain ⟨ev0', hw2⟩ := lcL_wiped hl'
          obtain ⟨R5, k1, k2, k3⟩ := un R4
          have R6 := R5.wiped hw2
          rw [hσ] at R6
          exact ⟨acc, av, ev2, ev0', Z3, A3, (s.trans g.zz).trans s3, hw2, R6, k1, ra.mono (g.zz.trans s3), k2, k3, by omega, hl'⟩
        | true =>
          rw [if_pos rfl]
          refine ⟨w.c.hold H'' [dA], rfl, ev2, Z3, A3, R4, ?_⟩
          show Out (w.blk (w.c.hold H'' [dA])) _ Z3 (evE w.cf e ev2) _
          simp only at hl'
          cases he : evE w.cf e ev2 with
          | bad => rw [he] at hl'; cases hl'
          | ex x' e' => rw [he] at hl'; cases hl'
          | ok r ev3 =>
            rw [he] at hl'
            intro H4 Z4 A4 s4 R5 y' rr
            obtain ⟨Z5, s5, R6, rr'⟩ := R5.stl rr
            simp only at hl'
            split at hl'
            · rename_i x' ev4 hx
              obtain ⟨Z6, A6, s6, R7, rp'⟩ := R6.esc rr' hx
              obtain ⟨R8, k1, k2, k3⟩ := un R7
              obtain ⟨ev0', hw2⟩ := lcL_wiped hl'
              have R9 := R8.wiped hw2
              rw [hσ] at R9
              have sa : Same Z Z6 := ((((s.trans g.zz).trans s3).trans s4).trans s5).trans s6
              have sb : Same Z' Z6 := (((g.zz.trans s3).trans s4).trans s5).trans s6
              exact ⟨av, k1, by omega, acc ++ [x'], av ++ [y'], ev4, ev0', Z6, A6, sa, hw2, R9.aside k2 k3 n2 n3 (fun ps q => by rw [k1] at q; cases q) (fun φ q => by rw [k1] at q; cases q), upd_same, (ra.mono sb).append (.cons rp' .nil), k2, k3, by simp; omega, hl'⟩
            · cases hl'
    · cases hl'
  · obtain ⟨acc, av, ev', ev0, Z', A', s, hw', R', hd, ra, zd, ad, la, hl'⟩ := h
    rw [List.drop_eq_nil_of_le (Nat.le_refl _)] at hl'
    simp only [lcL, hw'] at hl'
    cases hl'
    exact hQ H' Z' A' s (R.unwiped hw R' hw' s) (.ref dA) ⟨dA, [dA], rfl, ⟨rfl, av, hd, by omega, ra⟩, by simp, fun b hb => by
      cases List.mem_singleton.mp hb
      exact ⟨zd, n2, n3, ad⟩⟩
/-- the turns of a comprehension that makes lists anew -/
theorem lc2_turns {own tg : List Nat} {tup : Bool} {e : E} {ds : List D} {xss : List (List D)} {e2 : Ev} {J : L2.It} {Q : VK} (ho : ∀ i ∈ tg, i ∈ own) (wk : WalkOk w.K J Z ds) (R : RS w.K w.c σ H Z ev A) (hw : wipeE ev own = some evs)
    (hl : lcLL own tg tup (evE w.cf e) ds [] ev = .ok xss e2)
    (hQ : Out w σ Z (.ok (.f (.ll xss)) (unwipe ev e2 own)) fun r ev' H' Z' A' => ∀ x, RR w.K w.c σ H' Z' ev' A' x r → Q x H') :
    ∀ dA, H dA = none → ∃ W : Nat → Nat → Hp → Prop, (∃ m, W 0 m (upd H dA (.lst []))) ∧ ∀ i m H, W i m H →
      (J.stop i H ∧ Q (.ref dA) H) ∨ (J.go i H ∧ ∃ Nx : Hp → Prop, (∀ H', Nx H' → ∃ m', m' < m ∧ W (i + 1) m' H') ∧ ∀ x H', J.yld i H x H' → gTg w.K tup tg x (wipe σ own) H' fun σ2 H2 => wipe σ2 own = wipe σ own ∧ anyC w .no σ2 H2 fun b H3 =>
        if b = true then anyE w e σ2 H3 fun y H4 => ∃ acc, H4 dA = some (.lst acc) ∧ acc.length < sizeLine ∧ Nx (upd H4 dA (.lst (acc ++ [y]))) else Nx H3) := by
  intro dA hD
  obtain ⟨hsz, G, Y, wlk, hG, hY⟩ := wk
  obtain ⟨n1, n2, n3, n4⟩ := R.notin hD
  refine lc_it wlk (fun i H' => ∃ (acc : List (List D)) (as : List Addr) (ev' ev0 : Ev) (Z' : Hp) (A' : Nat → List Addr), Same Z Z' ∧ wipeE ev' own = some ev0 ∧ RS w.K w.c (wipe σ own) H' Z' ev0 A' ∧ OC w.K Z' H' as dA (.ll acc) ∧ as.Nodup ∧
      (∀ b ∈ as, Z' b = none ∧ w.c.H b = none ∧ w.c.F b = none ∧ ∀ i, b ∉ A' i) ∧ acc.length ≤ i ∧ lcLL own tg tup (evE w.cf e) (ds.drop i) acc ev' = .ok xss e2)
    ⟨[], [dA], ev, evs, Z, A, Same.refl _, hw, (R.wiped hw).fresh hD, ⟨[], rfl, upd_same, Nat.zero_le _, rfl, fun i b ds h => by simp at h⟩, by simp, fun b hb => by
      cases List.mem_singleton.mp hb
      exact ⟨n1, n2, n3, n4⟩, Nat.le_refl _, hl⟩ (fun i H' _ h => ?_) (fun i x H' H'' hi h y => ?_) (fun H' h => ?_)
  · obtain ⟨_, _, _, _, Z', _, s, _, R', _⟩ := h
    exact hG Z' H' s R'.sub
  · obtain ⟨acc, as, ev', ev0, Z', A', s, hw', R', oc, nd, own', la, hl'⟩ := h
    obtain ⟨Z2, d, hdi, g, rp⟩ := hY i H' x H'' Z' hi y s R'.sub
    have R2 := R'.ext g.zz g.sub g.zf g.nt g.hh
    have oc2 : OC w.K Z2 H'' as dA (.ll acc) := oc.mono g.zz fun b _ u h => g.hh b u h
    have zd2 : ∀ b ∈ as, Z2 b = none := fun b hb => by
      cases q : Z2 b with
      | none => rfl
      | some u =>
        rcases g.zf b u q with z | z | ⟨ys, rfl⟩
        · rw [(own' b hb).1] at z; cases z
        · exact absurd z (oc.alive b hb)
        · exact absurd (g.sub b _ q) (oc2.lstLike b hb ys)
    have Rh := R2.hold (as := as) (fun p hp => ⟨oc2.alive p hp, zd2 p hp, (own' p hp).2.2.2⟩) oc2.lstLike oc2.noTbl
    have un : ∀ {σ' : L2.St} {H3 Z3 : Hp} {ev3 : Ev} {A3 : Nat → List Addr}, RS w.K (w.c.hold H'' as) σ' H3 Z3 ev3 A3 → Same Z2 Z3 → RS w.K w.c σ' H3 Z3 ev3 A3 ∧ OC w.K Z3 H3 as dA (.ll acc) ∧ ∀ b ∈ as, Z3 b = none ∧ w.c.H b = none ∧ w.c.F b = none ∧ ∀ i, b ∉ A3 i := fun R3 s3 => by
      obtain ⟨q1, q2⟩ := R3.unhold fun p hp => (own' p hp).2.2.1
      refine ⟨q1, oc2.mono s3 fun b hb u h => (q2 b hb u h).1, fun b hb => ?_⟩
      cases hh : H'' b with
      | none => exact absurd hh (oc2.alive b hb)
      | some u =>
        obtain ⟨_, k2, k3⟩ := q2 b hb u hh
        exact ⟨k2, (own' b hb).2.1, (own' b hb).2.2.1, k3⟩
    have hdr : ds.drop i = d :: ds.drop (i + 1) := by
      have := List.getElem?_eq_some_iff.mp hdi
      rw [← this.2]
      exact List.drop_eq_getElem_cons this.1
    rw [hdr] at hl'
    simp only [lcLL, hw'] at hl'
    split at hl'
    · rename_i ev1 hb
      refine RS.bindTg Rh rp hb fun vs A1 R3 => ?_
      have hσ : wipe (setsS (wipe σ own) tg vs) own = wipe σ own := by rw [setsS_wipe ho, wipe_wipe]
      refine ⟨hσ, w.c.hold H'' as, rfl, ev1, Z2, A1, R3, ?_⟩
      show Out (w.blk (w.c.hold H'' as)) _ Z2 (evC w.cf .no ev1) _
      simp only [evC]
      intro H3 Z3 A3 s3 R4
      rw [if_pos rfl]
      refine ⟨w.c.hold H'' as, rfl, ev1, Z3, A3, R4, ?_⟩
      show Out (w.blk (w.c.hold H'' as)) _ Z3 (evE w.cf e ev1) _
      split at hl'
      · rename_i ys ev3 he
        rw [he]
        intro H4 Z4 A4 s4 R5 y' rr
        obtain ⟨b, bs', rfl, ocb, ndb, fb⟩ := rr
        obtain ⟨rfl, vs', q1, q2, q3⟩ := ocb
        obtain ⟨f1, f2, f3, f4⟩ := fb b (by simp)
        have hbn : b ∉ as ∧ w.c.F b = none := by
          have f3 : addZ w.c.F H'' as b = none := f3
          by_cases hm : b ∈ as
          · rw [addZ_in hm] at f3
            exact absurd f3 (oc2.alive b hm)
          · rw [addZ_out hm] at f3
            exact ⟨hm, f3⟩
        obtain ⟨R8, k1, k2⟩ := un R5 (s3.trans s4)
        obtain ⟨ev0', hw2⟩ := lcLL_wiped hl'
        have R9 := R8.wiped hw2
        rw [hσ] at R9
        have sa : Same Z Z4 := ((s.trans g.zz).trans s3).trans s4
        obtain ⟨bs, rfl, p1, p2, p3, p4⟩ := k1
        have hdA := k2 dA (by simp)
        have hbd : b ≠ dA := fun e => hbn.1 (by rw [e]; simp)
        have hlen : bs.length ≤ i := by omega
        have hlt : i < sizeLine := by omega
        refine ⟨bs.map V.ref, p1, by simp; omega, acc ++ [ys], dA :: (bs ++ [b]), ev3, ev0', Z4, A4, sa, hw2, R9.aside hdA.1 hdA.2.2.2 hdA.2.1 hdA.2.2.1 (fun ps q => by rw [p1] at q; cases q) (fun φ q => by rw [p1] at q; cases q), ⟨bs ++ [b], rfl, by rw [upd_same]; simp, by simp; omega, by simp [p3], fun j c ds' e1 e2 => ?_⟩, ?_, ?_, by simp; omega, hl'⟩
        · rcases Nat.lt_or_ge j bs.length with hj | hj
          · rw [List.getElem?_append_left hj] at e1
            rw [List.getElem?_append_left (by omega)] at e2
            obtain ⟨xs, r1, r2, r3⟩ := p4 j c ds' e1 e2
            have hc : c ∈ bs := List.mem_of_getElem? e1
            exact ⟨xs, by rw [upd_ne (fun e => by subst e; exact (List.nodup_cons.mp nd).1 hc)]; exact r1, r2, r3⟩
          · rw [List.getElem?_append_right hj] at e1
            rw [List.getElem?_append_right (by omega)] at e2
            rw [← p3] at e2
            cases hj2 : j - bs.length with
            | zero =>
              rw [hj2] at e1 e2
              simp at e1 e2
              subst e1 e2
              exact ⟨vs', by rw [upd_ne hbd]; exact q1, q2, q3⟩
            | succ n => rw [hj2] at e1; simp at e1
        · have nd' := List.nodup_cons.mp nd
          rw [List.nodup_cons]
          refine ⟨by simp [nd'.1]; exact fun e => hbd e.symm, ?_⟩
          rw [List.nodup_append]
          refine ⟨nd'.2, by simp, fun x hx y hy => ?_⟩
          cases List.mem_singleton.mp hy
          intro e
          subst e
          exact hbn.1 (by simp [hx])
        · intro c hc
          rcases List.mem_cons.mp hc with rfl | hc
          · exact hdA
          · rcases List.mem_append.mp hc with hc | hc
            · exact k2 c (by simp [hc])
            · cases List.mem_singleton.mp hc
              exact ⟨f1, f2, hbn.2, f4⟩
      · cases hl'
    · cases hl'
  · obtain ⟨acc, as, ev', ev0, Z', A', s, hw', R', oc, nd, own', la, hl'⟩ := h
    rw [List.drop_eq_nil_of_le (Nat.le_refl _)] at hl'
    simp only [lcLL, hw'] at hl'
    cases hl'
    exact hQ H' Z' A' s (R.unwiped hw R' hw' s) (.ref dA) ⟨dA, as, rfl, oc, nd, own'⟩
end
end Bide

set_option autoImplicit false
set_option Elab.async false
set_option maxRecDepth 100000
set_option linter.all false
set_option maxHeartbeats 4000000
/-! A dict built by a comprehension, whatever its keys are: ints and texts, or tuples of these. -/
namespace Bide
open PySem PySem.Spec PyProof.Rows L2

def dNew : Bool → HO
  | false => .dK []
  | true => .dT []
theorem dNew_ok {P : Program} {w : World} {H : Hp} (t : Bool) (h : Heap) (hb : sysModules < h.objs.size) :
    ObjOk P w H (h.push { cls := .type "dict", data := .dict #[] }) h.objs.size (dNew t) := by
  cases t
  · exact dk_empty h hb
  · exact dt_empty h hb
section
variable {X : Cx} {pins : List (Addr × Obj)} {σ : L2.St} {H H' : Hp} {s : Shared} {a : Addr} {y v : V} {u r : Value} {E : Value → Shared → Prop} {Q : Unit → Shared → Prop}
theorem d_store (hu : X.A.units < cLine) (I : Inv X pins σ H s) (g : DPut H a y v H') (ry : RelV y u) (rv : RelV v r) (h : ∀ s', Inv X pins σ H' s' → Q () s') : wpAny (model X.prog X.w) X.A (dictSet a u r) Q E s := by
  rcases g with ⟨kvs, k, e, rfl, l, rfl⟩ | ⟨kvs, k, b, e, rfl, eb, l, rfl⟩
  · exact d_dictSet I e l ry rv h
  · cases (show u = Value.ref b from ry)
    obtain ⟨z, nm, ys, kt, dd⟩ := dt_of I.hok e
    have hy : ys.length ≤ sizeLine := by rw [← Paired.length kt]; exact z
    have grow := length_putK kvs k v
    refine wpAny_dictSet_heap (hsz := hy) (knd := tupleKind (mixKind X.prog X.w)) hu (key_of I.hok eb) dd fun h1 dd1 sb => h _ ?_
    obtain ⟨q, es, ep, g1, g2, g3, g4, _, g5⟩ := dd1
    refine d_write I (by rw [e]; trivial) sb ⟨q, g1⟩ ⟨by omega, nm, _, (kt.put k eb rv).keeps fun p zs ep' => ?_, q, es, ep, g1, g2, g3, g4, g5⟩
    by_cases hpa : p = a
    · rw [hpa, e] at ep'; cases ep'
    · rw [upd_ne hpa]; exact ep'
end
/-- {k: v for target in iter if ..}: D the new dict -/
def tDcc (t : Bool) (wi : TI) (g : TG) (tt : TT) (tk tv : TE) (vs : List Nat) : TE := fun σ H Q => wi σ H fun J H1 => ∀ D, H1 D = none →
  ∃ W : Nat → Nat → Hp → Prop, (∃ m, W 0 m (upd H1 D (dNew t))) ∧ ∀ i m H, W i m H → (J.stop i H ∧ Q (.ref D) H) ∨
    (J.go i H ∧ ∃ Nx : Hp → Prop, (∀ H', Nx H' → ∃ m', m' < m ∧ W (i + 1) m' H') ∧ ∀ x H', J.yld i H x H' →
      g x (wipe σ vs) H' fun σ2 H2 => wipe σ2 vs = wipe σ vs ∧ tt σ2 H2 fun b H3 =>
        match b with
        | true => tk σ2 H3 fun y H4 => tv σ2 H4 fun z H5 => ∃ H6, DPut H5 D y z H6 ∧ Nx H6
        | false => Nx H3)
section
variable {X : Cx}
abbrev Blk (X : Cx) (scope : Scope) (φ : Cx → Prop) : Prop := ∀ (s : Shared) (H : Hp) (C : Addr) (cl : List (Str × Addr)) (fp : List Addr), φ (X.blk s H scope (compEnvC scope cl C X.env) fp)
theorem dcc {pins : List (Addr × Obj)} {sA : Shared} {σ : L2.St} {H : Hp} {Q : VK} {kx vx tg iter : Expr} {ifs : List Expr} {scope : Scope} {own : List (Str × Nat)} {pos pos' : Pos} {t : Bool} {wi : TI} {g : TG} {tt : TT} {tk tv : TE}
    {use : Option (Value → Sem Unit)} {Qf : Value → Shared → Prop} (hu : X.A.units < cLine) (calm : X.calm = true) (nd : X.N.Nodup) (I : Inv X pins σ H sA) (hi : PI X tg iter wi) (ok : BlkOk X.N X.env.scope scope own)
    (hg : Blk X scope fun X => PG X tg g) (ht : Blk X scope fun X => PTs X ifs tt) (hk : Blk X scope fun X => PE X kx tk) (hv : Blk X scope fun X => PE X vx tv) (hs : ∀ x, foldedSetIterable iter X.env x = pure x)
    (h : tDcc t wi g tt tk tv (own.map (·.2)) σ H Q)
    (fin : ∀ D C s' m H', Inv X pins σ H' s' → Q (.ref D) H' → s'.heap.Ns C m → FpOk X pins H' C → compPost (model X.prog X.w) X.A X.xe use Qf (.ref D) C (.ok .next) s') :
    wpAny (model X.prog X.w) X.A (comprehension (.DictComp kx vx [⟨tg, iter, ifs, 0⟩] scope pos) scope X.env pos' newDict false (eval iter X.env) use) Qf X.xe sA := by
  have fr : ∀ n ∈ scope.names, n.2 = .free → ∃ c, X.env.cells.lookup n.1 = some c := fun n hn e => (ok.free n hn e).elim (fun z => I.ok.has _ (.inl z)) fun z => I.ok.has _ (.inr z)
  refine wpAny_comprehension_free (use := use) rfl hs (closure_ok fr) ok.kind (fun n hn e => by rw [ok.uniq n hn, e])
    (thn (hi.run pins sA σ H _ I h) fun v0 sB qB => thn qB fun v1 sC ⟨it, fp, tn, J, HC, e1, IC, T, stC, fpC, qC⟩ => ?_)
  subst e1
  refine wpAny_newObj_type (newEnv_comp ?_)
  generalize eD : sC.heap.objs.size = D
  obtain ⟨W, ⟨m0, w0⟩, turn⟩ := qC D (IC.hok.fresh (Nat.le_of_eq eD))
  -- the new dict
  generalize eE : ({ sC with heap := sC.heap.push { cls := .type "dict", data := .dict #[] } } : Shared) = sE
  generalize eHE : upd HC D (dNew t) = HE at w0
  have IE : Inv X pins σ HE sE := by
    subst eE eHE eD
    exact IC.laid (t' := sC.toks) (fun p o z => Heap.get?_push_of_some _ z) (Nat.le_refl _) (dNew_ok t sC.heap IC.big)
  have hpE : sE.heap = sC.heap.push { cls := .type "dict", data := .dict #[] } := by rw [← eE]
  have lt : ∀ b ∈ fp, b < sC.heap.objs.size := fun b hb => (T.obj _ _ stC b hb).elim fun o z => Heap.lt_size z.1
  have fpE : ∀ b ∈ fp, FpOk X pins HE b ∧ b < sE.heap.objs.size := fun b hb => by
    have l := lt b hb
    have ne : b ≠ D := by rw [← eD]; exact Nat.ne_of_lt l
    refine ⟨⟨?_, (fpC b hb).2⟩, ?_⟩
    · rw [← eHE, upd_ne ne]; exact (fpC b hb).1
    · rw [hpE, Heap.size_push]; exact Nat.lt_succ_of_lt l
  have stE : tn 0 sE.heap := T.keep _ _ _ stC fun p _ o z => by rw [hpE]; exact Heap.get?_push_of_some _ z
  have IF := block_start IE ok nd fpE
  generalize eL : cellsFrom (sE.heap.objs.size + 1) scope.names (cloFrom X.env.cells scope.names []) = cl at IF ⊢
  have pg := hg sE HE sE.heap.objs.size cl fp
  have pt := ht sE HE sE.heap.objs.size cl fp
  have pk := hk sE HE sE.heap.objs.size cl fp
  have pv := hv sE HE sE.heap.objs.size cl fp
  show codeAny _ _ (.compStart (.DictComp kx vx [⟨tg, iter, ifs, 0⟩] scope pos) 0 (.ref it) (.ref D) (compEnvC scope cl sE.heap.objs.size X.env)) (compPost (model X.prog X.w) X.A X.xe use Qf (.ref D) sE.heap.objs.size)
    { sE with heap := pushCells (sE.heap.push { cls := .type "dict", data := .dict #[] }) scope.names }
  generalize eC : compEnvC scope cl sE.heap.objs.size X.env = ce at IF pg pt pk pv ⊢
  have eloc : ce.locals = sE.heap.objs.size := by subst eC; rfl
  generalize eF : ({ sE with heap := pushCells (sE.heap.push { cls := .type "dict", data := .dict #[] }) scope.names } : Shared) = sF at IF ⊢
  have stF : tn 0 sF.heap := T.keep _ _ _ stE fun p _ o z => by rw [← eF]; exact pushCells_keeps _ _ _ _ (Heap.get?_push_of_some _ z)
  have fpB : ∀ {σ1 : L2.St} {H1 : Hp} {s1 : Shared}, Inv (X.blk sE HE scope ce fp) [] σ1 H1 s1 → (∀ b ∈ fp, H1 b = none) → ∀ b ∈ fp, FpOk (X.blk sE HE scope ce fp) [] H1 b := fun {σ1 H1 s1} I1 n1 b hb =>
    ⟨n1 b hb, (I1.ok.exf b hb).1, I1.ok.exfs b hb, .inl hb, fun n c z => (I1.ok.exf b hb).2 n c z, fun p hp => absurd (show p ∈ ([] : List (Addr × Obj)) ++ [] from hp) (by simp)⟩
  have loop : codeAny (model X.prog X.w) X.A (.compLoop (.DictComp kx vx [⟨tg, iter, ifs, 0⟩] scope pos) 0 (.ref it) (.ref D) ce) (compPost (model X.prog X.w) X.A X.xe use Qf (.ref D) sE.heap.objs.size) sF := by
    refine compLoop_anyD (fun n s1 => ∃ i H1, Inv (X.blk sE HE scope ce fp) [] (wipe σ (own.map (·.2))) H1 s1 ∧ tn i s1.heap ∧ (∀ b ∈ fp, H1 b = none) ∧ W i n H1) ?_ m0
      ⟨0, HE, IF, stF, fun b hb => (fpE b hb).1.1, w0⟩
    rintro n s1 ⟨i, H1, I1, st1, n1, w1⟩
    rcases turn i n H1 w1 with ⟨stop, qe⟩ | ⟨go, Nx, hNx, step⟩
    · -- the end: back in the def's context
      refine thnF (T.done (X.blk sE HE scope ce fp) rfl rfl rfl calm i [] s1 _ H1 (fun _ _ => False) I1 (fpB I1 n1) st1 stop) fun r s2 ⟨hr, I2⟩ => ?_
      subst hr
      have I3 : Inv X pins σ H1 s2 := IE.call' (ch := fp) I2.os I2.base I2.hok I2.bare fun b hb =>
        let z := (fpE b hb).1
        ⟨z.2.2.2.1, z.2.1, z.2.2.2.2.1, z.2.2.2.2.2⟩
      have nC : H1 sE.heap.objs.size = none := by
        have z : H1 ce.locals = none := I2.free
        rwa [eloc] at z
      obtain ⟨m, hn, _⟩ := I2.loc
      have hn : s2.heap.Ns ce.locals m := hn
      rw [eloc] at hn
      exact fin D _ s2 m H1 I3 qe hn (IE.fpOk (Nat.le_refl _) nC)
    · refine thnF (T.item (X.blk sE HE scope ce fp) rfl rfl rfl calm i [] s1 _ H1 (fun _ _ => False) I1 (fpB I1 n1) st1 go) fun r s2 ⟨u, hr, q2⟩ => ?_
      subst hr
      refine thnF q2 fun _ s3 ⟨x, H3, I3, r3, y3, st3, n3⟩ => ?_
      refine thnF (pg.run _ s3 _ H3 x u _ (I3.pinned (fpB I3 n3) (T.obj _ _ st3)) r3 (step x H3 y3)) fun _ s4 ⟨σ4, H4, I4, hw4, q4⟩ => ?_
      refine thnF (pt.run _ s4 σ4 H4 _ I4 q4) fun b s5 ⟨H5, I5, q5⟩ => ?_
      -- the turn's end
      have next : ∀ {s9 : Shared} {H9 : Hp}, Inv (X.blk sE HE scope ce fp) ([] ++ pinsAt fp s3.heap) σ4 H9 s9 → Nx H9 →
          ∃ m, m < n ∧ ∃ i H1, Inv (X.blk sE HE scope ce fp) [] (wipe σ (own.map (·.2))) H1 s9 ∧ tn i s9.heap ∧ (∀ b ∈ fp, H1 b = none) ∧ W i m H1 := fun {s9 H9} I9 nx => by
        obtain ⟨m', hm, w'⟩ := hNx H9 nx
        have pinned : ∀ b ∈ fp, ∀ o, s3.heap.get? b = some o → s9.heap.get? b = some o ∧ H9 b = none := fun b hb o e =>
          have z := I9.pin (b, o) (List.mem_append_right _ (List.mem_append_right _ (mem_pinsAt hb e)))
          ⟨z.1, z.2.1⟩
        refine ⟨m', hm, i + 1, H9, (I9.unpinned (pins := [])).weak (by rw [← hw4, wipe_length]) (fun j v e => ?_), T.keep _ _ _ st3 fun b hb o e => (pinned b hb o e).1, fun b hb => ?_, w'⟩
        · rw [← hw4] at e
          exact (wipe_some e).1
        · obtain ⟨o, e, _⟩ := T.obj _ _ st3 b hb
          exact (pinned b hb o e).2
      cases b with
      | false => exact next I5 q5
      | true =>
        refine thnF (pk.run _ s5 σ4 H5 _ I5 q5) fun a6 s6 ⟨y6, H6, I6, r6, q6⟩ => ?_
        refine thnF (pv.run _ s6 σ4 H6 _ I6 q6) fun a7 s7 ⟨y7, H7, I7, r7, H8, pu, nx⟩ => ?_
        exact d_store (X := X.blk sE HE scope ce fp) hu I7 pu r6 r7 fun s8 I8 => next I8 nx
  exact codeAny_compStart_dict loop (T.self X.A 0 _ _ _ stF loop)
/-- as a value -/
theorem pe_dcc {kx vx tg iter : Expr} {ifs : List Expr} {scope : Scope} {own : List (Str × Nat)} {pos : Pos} {t : Bool} {wi : TI} {g : TG} {tt : TT} {tk tv : TE} (hu : X.A.units < cLine) (calm : X.calm = true) (nd : X.N.Nodup) (hi : PI X tg iter wi)
    (ok : BlkOk X.N X.env.scope scope own) (hg : Blk X scope fun X => PG X tg g) (ht : Blk X scope fun X => PTs X ifs tt) (hk : Blk X scope fun X => PE X kx tk) (hv : Blk X scope fun X => PE X vx tv) (hs : ∀ x, foldedSetIterable iter X.env x = pure x) :
    PE X (.DictComp kx vx [⟨tg, iter, ifs, 0⟩] scope pos) (tDcc t wi g tt tk tv (own.map (·.2))) := by
  refine ⟨fun pins s σ H Q I h => ?_⟩
  rw [arm_eval_DictComp]
  refine dcc (t := t) hu calm nd I hi ok hg ht hk hv hs h fun D C s1 m H1 I1 q hn ⟨_, f1, f2, f3, f4, f5⟩ => ⟨m, hn, fun h2 sb => ?_⟩
  exact ⟨.ref D, H1, I1.turned (t' := s1.toks) (fun p o hp e => (sb.2 p hp).trans e) ‹_› f1 f3 f4 f5, rfl, q⟩
/-- stored in a local name, on one line -/
theorem ps_setDcc {i : Nat} {x : Str} {px : Pos} {kx vx tg iter : Expr} {ifs : List Expr} {scope : Scope} {own : List (Str × Nat)} {pos spos : Pos} {t : Bool} {wi : TI} {g : TG} {tt : TT} {tk tv : TE} (hu : X.A.units < cLine) (calm : X.calm = true) (nd : X.N.Nodup)
    (hx : X.N[i]? = some x) (hl : X.env.scope.names.lookup x = some .local) (sw : swapsWith (.DictComp kx vx [⟨tg, iter, ifs, 0⟩] scope pos) (some (.Name x px)) spos.line X.env = pure true) (hi : PI X tg iter wi)
    (ok : BlkOk X.N X.env.scope scope own) (hg : Blk X scope fun X => PG X tg g) (ht : Blk X scope fun X => PTs X ifs tt) (hk : Blk X scope fun X => PE X kx tk) (hv : Blk X scope fun X => PE X vx tv) (hs : ∀ x, foldedSetIterable iter X.env x = pure x) :
    PS X (.Assign [.Name x px] (.DictComp kx vx [⟨tg, iter, ifs, 0⟩] scope pos) spos) (tAsg (tDcc t wi g tt tk tv (own.map (·.2))) (gName i)) := by
  refine ⟨fun pins s σ H De I h => ?_⟩
  rw [exec_Assign_Name_used _ _ _ _ sw]
  refine wpAny_bind (wpAny_standAt (wpAny_bind ?_))
  show wpAny _ X.A (do let _ ← comprehension (.DictComp kx vx [⟨tg, iter, ifs, 0⟩] scope pos) scope X.env (firstIterPos [⟨tg, iter, ifs, 0⟩] pos) newDict false (eval iter X.env) (some (assign (.Name x px) X.env))) _ _ s
  have h : tDcc t wi g tt tk tv (own.map (·.2)) σ H (fun y H1 => gName i y σ H1 De.nx) := h
  refine wpAny_bind (thn (dcc (t := t) (Qf := fun _ s' => SP X pins De .next s') hu calm nd I hi ok hg ht hk hv hs h fun D C s1 m H1 I1 q hn ⟨_, f1, f2, f3, f4, f5⟩ => ?_) fun _ s' hq => wpAny_pure (wpAny_pure hq))
  show wpAny _ _ (assign (.Name x px) X.env (.ref D)) _ _ _
  refine wpAny_assign_Name (store_ok2 (v := V.ref D) I1 nd hx (.inl hl) rfl (fun s2 I2 ⟨a, sb, ha⟩ => ?_) (.inr hl))
  have ne : C ≠ a := ha.elim (fun z => by rw [z]; exact f1) fun z e => f4 x a z e.symm
  exact ⟨m, hn.sameBut sb ne, fun h3 sb3 => ⟨_, H1, I2.turned (t' := s2.toks) (fun p o hp e => (sb3.2 p hp).trans e) ‹_› f1 f3 f4 f5, q⟩⟩
end
end Bide

set_option autoImplicit false
set_option Elab.async false
set_option maxRecDepth 100000
set_option linter.all false
set_option maxHeartbeats 4000000
/-! Dicts: a store, a comprehension's turns, a dict that is locked while it is walked, its keys' walk. -/
namespace Bide
open PySem L2
section
theorem RpK.anyK {K : PySem.W.Frag} {Z : Hp} (k : Key) : ∀ {ks : List (Key × V)} {kvs : List (D × D)}, RpK K Z ks kvs → (ks.any fun kv => decide (kv.1 = k)) = (kvs.any fun kv => sameKey kv.1 (keyD k))
  | _, _, .nil => rfl
  | _, _, .cons h r => by rw [List.any_cons, List.any_cons, RpK.anyK k r, sameKey_kd]
theorem RpK.mapK {K : PySem.W.Frag} {Z : Hp} {v : V} {d : D} (k : Key) (rv : Rp K Z v d) : ∀ {ks : List (Key × V)} {kvs : List (D × D)}, RpK K Z ks kvs → RpK K Z (ks.map (fun kv => if kv.1 = k then (kv.1, v) else kv)) (kvs.map (fun kv => if sameKey kv.1 (keyD k) = true then (kv.1, d) else kv))
  | _, _, .nil => .nil
  | _, _, .cons (k := k') h r => by
    rw [List.map_cons, List.map_cons]
    simp only [sameKey_kd]
    by_cases e : k' = k
    · simp only [e, decide_true, if_true]
      exact .cons rv (RpK.mapK k rv r)
    · simp only [e, decide_false, if_false, Bool.false_eq_true]
      exact .cons h (RpK.mapK k rv r)
theorem RpK.app1 {K : PySem.W.Frag} {Z : Hp} {v : V} {d : D} (k : Key) (rv : Rp K Z v d) : ∀ {ks : List (Key × V)} {kvs : List (D × D)}, RpK K Z ks kvs → RpK K Z (ks ++ [(k, v)]) (kvs ++ [((keyD k), d)])
  | _, _, .nil => .cons rv .nil
  | _, _, .cons h r => .cons h (RpK.app1 k rv r)
theorem RpK.put {K : PySem.W.Frag} {Z : Hp} {v : V} {d : D} (k : Key) (rv : Rp K Z v d) {ks : List (Key × V)} {kvs : List (D × D)} (h : RpK K Z ks kvs) : RpK K Z (putK ks k v) (putKV kvs (keyD k) d) := by
  unfold putK putKV
  rw [h.anyK k]
  split
  · exact h.mapK k rv
  · exact h.app1 k rv
theorem RpT.anyK {K : PySem.W.Frag} {Z : Hp} (k : List Key) : ∀ {ks : List (List Key × V)} {kvs : List (D × D)}, RpT K Z ks kvs → (ks.any fun kv => decide (kv.1 = k)) = (kvs.any fun kv => sameKey kv.1 (.tuple (k.map keyD)))
  | _, _, .nil => rfl
  | _, _, .cons l h r => by rw [List.any_cons, List.any_cons, RpT.anyK k r, sameKey_kt]
theorem RpT.mapK {K : PySem.W.Frag} {Z : Hp} {v : V} {d : D} (k : List Key) (hk : k.length ≤ sizeLine) (rv : Rp K Z v d) : ∀ {ks : List (List Key × V)} {kvs : List (D × D)}, RpT K Z ks kvs → RpT K Z (ks.map (fun kv => if kv.1 = k then (kv.1, v) else kv)) (kvs.map (fun kv => if sameKey kv.1 (.tuple (k.map keyD)) = true then (kv.1, d) else kv))
  | _, _, .nil => .nil
  | _, _, .cons (k := k') l h r => by
    rw [List.map_cons, List.map_cons]
    simp only [sameKey_kt]
    by_cases e : k' = k
    · simp only [e, decide_true, if_true]
      exact .cons hk rv (RpT.mapK k hk rv r)
    · simp only [e, decide_false, if_false, Bool.false_eq_true]
      exact .cons l h (RpT.mapK k hk rv r)
theorem RpT.app1 {K : PySem.W.Frag} {Z : Hp} {v : V} {d : D} (k : List Key) (hk : k.length ≤ sizeLine) (rv : Rp K Z v d) : ∀ {ks : List (List Key × V)} {kvs : List (D × D)}, RpT K Z ks kvs → RpT K Z (ks ++ [(k, v)]) (kvs ++ [((.tuple (k.map keyD)), d)])
  | _, _, .nil => .cons hk rv .nil
  | _, _, .cons l h r => .cons l h (RpT.app1 k hk rv r)
theorem RpT.put {K : PySem.W.Frag} {Z : Hp} {v : V} {d : D} (k : List Key) (hk : k.length ≤ sizeLine) (rv : Rp K Z v d) {ks : List (List Key × V)} {kvs : List (D × D)} (h : RpT K Z ks kvs) : RpT K Z (putK ks k v) (putKV kvs (.tuple (k.map keyD)) d) := by
  unfold putK putKV
  rw [h.anyK k]
  split
  · exact h.mapK k hk rv
  · exact h.app1 k hk rv
theorem putK_len {κ : Type} [DecidableEq κ] {kvs : List (κ × V)} {k : κ} {v : V} (h : kvs.length < sizeLine) : (putK kvs k v).length ≤ sizeLine := by
  unfold putK
  split
  · rw [List.length_map]; omega
  · simp; omega
end
/-- a store into an owned dict -/
theorem OC.putd {K : PySem.W.Frag} {Z H : Hp} {t : Bool} {kvs : List (D × D)} {as : List Addr} {a : Addr} {y v : V} {kd d : D} (oc : OC K Z H as a (.d t kvs)) (s : Same Z H) (rk : Rp K Z y kd) (rv : Rp K Z v d) (ok : keyOkT t kd = true) (hl : kvs.length < sizeLine) :
    as = [a] ∧ ∃ H', DPut H a y v H' ∧ (∀ b, b ≠ a → H' b = H b) ∧ OC K Z H' as a (.d t (putKV kvs kd d)) := by
  cases t with
  | false =>
    obtain ⟨rfl, ks, g1, g2, g3⟩ := oc
    obtain ⟨kq, rfl, rfl⟩ := key_of_flat (.inl rk : RdV K Z H _ _) ok
    have hl' : ks.length < sizeLine := by rw [g3.length]; exact hl
    exact ⟨rfl, _, DPut.k g1 hl', fun b hb => upd_ne hb, rfl, _, upd_same, putK_len hl', g3.put kq rv⟩
  | true =>
    obtain ⟨rfl, ks, g1, g2, g3⟩ := oc
    cases kd <;> (first | (simp [keyOkT] at ok; done) | skip)
    obtain ⟨b, xs, rfl, q1, q2, q3⟩ := RdV.tuple s (.inl rk : RdV K Z H _ _)
    obtain ⟨kq, rfl, rfl⟩ := q3.keys (by simpa [keyOkT] using ok)
    have hl' : ks.length < sizeLine := by rw [g3.length]; exact hl
    exact ⟨rfl, _, DPut.t g1 q1 hl', fun b hb => upd_ne hb, rfl, _, upd_same, putK_len hl', g3.put kq (by rw [List.length_map] at q2; exact q2) rv⟩
theorem putKV_len {kvs : List (D × D)} {x y : D} : (putKV kvs x y).length ≤ kvs.length + 1 := by
  unfold putKV
  split
  · rw [List.length_map]; omega
  · simp
/-- a dict comprehension over a walk -/
theorem dcc_it {J : L2.It} {n : Nat} {G : Hp → Prop} {Y : Nat → Hp → V → Hp → Prop} (wk : Walk J n G Y) {t : Bool} {g : TG} {tt : TT} {tk tv : TE} {vs : List Nat} {σ : L2.St} {H1 : Hp} {D : Addr} {Qd : Hp → Prop} (Pv : Nat → Hp → Prop) (h0 : Pv 0 (upd H1 D (dNew t))) (hG : ∀ i H, i ≤ n → Pv i H → G H)
    (hs : ∀ i x H H', i < n → Pv i H → Y i H x H' → g x (wipe σ vs) H' fun σ2 H2 => wipe σ2 vs = wipe σ vs ∧ tt σ2 H2 fun b H3 =>
      match b with
      | true => tk σ2 H3 fun y H4 => tv σ2 H4 fun z H5 => ∃ H6, DPut H5 D y z H6 ∧ Pv (i + 1) H6
      | false => Pv (i + 1) H3) (hd : ∀ H, Pv n H → Qd H) :
    ∃ W : Nat → Nat → Hp → Prop, (∃ m, W 0 m (upd H1 D (dNew t))) ∧ ∀ i m H, W i m H → (J.stop i H ∧ Qd H) ∨
      (J.go i H ∧ ∃ Nx : Hp → Prop, (∀ H', Nx H' → ∃ m', m' < m ∧ W (i + 1) m' H') ∧ ∀ x H', J.yld i H x H' →
        g x (wipe σ vs) H' fun σ2 H2 => wipe σ2 vs = wipe σ vs ∧ tt σ2 H2 fun b H3 =>
          match b with
          | true => tk σ2 H3 fun y H4 => tv σ2 H4 fun z H5 => ∃ H6, DPut H5 D y z H6 ∧ Nx H6
          | false => Nx H3) := by
  refine ⟨fun i m H => m = n - i ∧ i ≤ n ∧ Pv i H, ⟨n, rfl, Nat.zero_le _, h0⟩, ?_⟩
  rintro i m H ⟨rfl, hi, p⟩
  have q := hG i H hi p
  rcases Nat.lt_or_ge i n with hlt | hge
  · exact .inr ⟨wk.goes i H hlt q, Pv (i + 1), fun H' p' => ⟨n - (i + 1), by omega, rfl, hlt, p'⟩, fun x H' y => hs i x H H' hlt p (wk.yields i H x H' hlt q y)⟩
  · obtain rfl : i = n := by omega
    exact .inl ⟨wk.stops H q, hd H p⟩
theorem dcL_wiped {own tg : List Nat} {tup kt : Bool} {t : Ev → R Bool} {k v : Ev → R RV} : ∀ {ds : List D} {acc : List (D × D)} {ev : Ev} {r : List (D × D)} {e : Ev}, dcL own tg tup kt t k v ds acc ev = .ok r e → ∃ ev0, wipeE ev own = some ev0
  | [], acc, ev, r, e, h => by
    simp only [dcL] at h
    split at h
    · rename_i h1; exact ⟨_, h1⟩
    · cases h
  | d :: ds, acc, ev, r, e, h => by
    simp only [dcL] at h
    split at h
    · rename_i h1; exact ⟨_, h1⟩
    · cases h
section
variable {w : Wd} {σ : L2.St} {H Z H1 Z1 : Hp} {ev evs : Ev} {A : Nat → List Addr}
/-- the turns of a dict comprehension -/
theorem dc_turns {kt : Bool} {own tg : List Nat} {tup : Bool} {cd : C} {k v : E} {ds : List D} {kvs : List (D × D)} {e2 : Ev} {J : L2.It} {Q : VK} (ho : ∀ i ∈ tg, i ∈ own) (wk : WalkOk w.K J Z ds) (R : RS w.K w.c σ H Z ev A) (hw : wipeE ev own = some evs)
    (hl : dcL own tg tup kt (evC w.cf cd) (evE w.cf k) (evE w.cf v) ds [] ev = .ok kvs e2)
    (hQ : Out w σ Z (.ok (.f (.d kt kvs)) (unwipe ev e2 own)) fun r ev' H' Z' A' => ∀ x, RR w.K w.c σ H' Z' ev' A' x r → Q x H') :
    ∀ dA, H dA = none → ∃ W : Nat → Nat → Hp → Prop, (∃ m, W 0 m (upd H dA (dNew kt))) ∧ ∀ i m H, W i m H → (J.stop i H ∧ Q (.ref dA) H) ∨
      (J.go i H ∧ ∃ Nx : Hp → Prop, (∀ H', Nx H' → ∃ m', m' < m ∧ W (i + 1) m' H') ∧ ∀ x H', J.yld i H x H' →
        gTg w.K tup tg x (wipe σ own) H' fun σ2 H2 => wipe σ2 own = wipe σ own ∧ anyC w cd σ2 H2 fun b H3 =>
          match b with
          | true => anyE w k σ2 H3 fun y H4 => anyE w v σ2 H4 fun z H5 => ∃ H6, DPut H5 dA y z H6 ∧ Nx H6
          | false => Nx H3) := by
  intro dA hD
  obtain ⟨hsz, G, Y, wlk, hG, hY⟩ := wk
  obtain ⟨n1, n2, n3, n4⟩ := R.notin hD
  refine dcc_it wlk (fun i H' => ∃ (acc : List (D × D)) (ev' ev0 : Ev) (Z' : Hp) (A' : Nat → List Addr), Same Z Z' ∧ wipeE ev' own = some ev0 ∧ RS w.K w.c (wipe σ own) H' Z' ev0 A' ∧ OC w.K Z' H' [dA] dA (.d kt acc) ∧ Z' dA = none ∧
      (∀ i, dA ∉ A' i) ∧ acc.length ≤ i ∧ dcL own tg tup kt (evC w.cf cd) (evE w.cf k) (evE w.cf v) (ds.drop i) acc ev' = .ok kvs e2)
    ⟨[], ev, evs, Z, A, Same.refl _, hw, (R.wiped hw).fresh hD, ?_, n1, n4, Nat.le_refl _, hl⟩ (fun i H' _ h => ?_) (fun i x H' H'' hi h y => ?_) (fun H' h => ?_)
  · cases kt
    · exact ⟨rfl, [], upd_same, Nat.zero_le _, .nil⟩
    · exact ⟨rfl, [], upd_same, Nat.zero_le _, .nil⟩
  · obtain ⟨_, _, _, Z', _, s, _, R', _⟩ := h
    exact hG Z' H' s R'.sub
  · obtain ⟨acc, ev', ev0, Z', A', s, hw', R', oc, zd, ad, la, hl'⟩ := h
    obtain ⟨Z2, d, hdi, g, rp⟩ := hY i H' x H'' Z' hi y s R'.sub
    have R2 := R'.ext g.zz g.sub g.zf g.nt g.hh
    have oc2 : OC w.K Z2 H'' [dA] dA (.d kt acc) := oc.mono g.zz fun b _ u h => g.hh b u h
    obtain ⟨uD, hd2⟩ : ∃ u, H'' dA = some u := by
      cases q : H'' dA with
      | none => exact absurd q (oc2.alive dA (by simp))
      | some u => exact ⟨u, rfl⟩
    have zd2 : Z2 dA = none := by
      cases q : Z2 dA with
      | none => rfl
      | some u =>
        rcases g.zf dA u q with z | z | ⟨ys, rfl⟩
        · rw [zd] at z; cases z
        · exact absurd z (oc.alive dA (by simp))
        · exact absurd (g.sub dA _ q) (oc2.lstLike dA (by simp) ys)
    have Rh := R2.hold (as := [dA]) (fun p hp => by
      cases List.mem_singleton.mp hp
      exact ⟨by rw [hd2]; simp, zd2, ad⟩) oc2.lstLike oc2.noTbl
    have un : ∀ {σ' : L2.St} {H3 Z3 : Hp} {ev3 : Ev} {A3 : Nat → List Addr}, RS w.K (w.c.hold H'' [dA]) σ' H3 Z3 ev3 A3 → Same Z2 Z3 → RS w.K w.c σ' H3 Z3 ev3 A3 ∧ OC w.K Z3 H3 [dA] dA (.d kt acc) ∧ Z3 dA = none ∧ ∀ i, dA ∉ A3 i := fun R3 s3 => by
      obtain ⟨q1, q2⟩ := R3.unhold fun p hp => by cases List.mem_singleton.mp hp; exact n3
      obtain ⟨k1, k2, k3⟩ := q2 dA (by simp) _ hd2
      exact ⟨q1, oc2.mono s3 fun b hb u h => by
        cases List.mem_singleton.mp hb
        rw [hd2] at h; cases h; exact k1, k2, k3⟩
    have hdr : ds.drop i = d :: ds.drop (i + 1) := by
      have := List.getElem?_eq_some_iff.mp hdi
      rw [← this.2]
      exact List.drop_eq_getElem_cons this.1
    rw [hdr] at hl'
    simp only [dcL, hw'] at hl'
    split at hl'
    · rename_i ev1 hb
      refine RS.bindTg Rh rp hb fun vs A1 R3 => ?_
      have hσ : wipe (setsS (wipe σ own) tg vs) own = wipe σ own := by rw [setsS_wipe ho, wipe_wipe]
      refine ⟨hσ, w.c.hold H'' [dA], rfl, ev1, Z2, A1, R3, ?_⟩
      show Out (w.blk (w.c.hold H'' [dA])) _ Z2 (evC w.cf cd ev1) _
      cases hc : evC w.cf cd ev1 with
      | bad => rw [hc] at hl'; cases hl'
      | ex x' e' => rw [hc] at hl'; cases hl'
      | ok b ev2 =>
        rw [hc] at hl'
        intro H3 Z3 A3 s3 R4
        cases b with
        | false =>
          obtain ⟨ev0', hw2⟩ := dcL_wiped hl'
          obtain ⟨R5, k1, k2, k3⟩ := un R4 s3
          have R6 := R5.wiped hw2
          rw [hσ] at R6
          exact ⟨acc, ev2, ev0', Z3, A3, (s.trans g.zz).trans s3, hw2, R6, k1, k2, k3, by omega, hl'⟩
        | true =>
          refine ⟨w.c.hold H'' [dA], rfl, ev2, Z3, A3, R4, ?_⟩
          show Out (w.blk (w.c.hold H'' [dA])) _ Z3 (evE w.cf k ev2) _
          simp only at hl'
          cases he : evE w.cf k ev2 with
          | bad => rw [he] at hl'; cases hl'
          | ex x' e' => rw [he] at hl'; cases hl'
          | ok r ev3 =>
            rw [he] at hl'
            intro H4 Z4 A4 s4 R5 y' rr
            obtain ⟨Z5, s5, R6, rr'⟩ := R5.stl rr
            simp only at hl'
            split at hl'
            · rename_i x' ev4 hx
              obtain ⟨Z6, A6, s6, R7, rp'⟩ := R6.esc rr' hx
              refine ⟨w.c.hold H'' [dA], rfl, ev4, Z6, A6, R7, ?_⟩
              show Out (w.blk (w.c.hold H'' [dA])) _ Z6 (evE w.cf v ev4) _
              cases hv : evE w.cf v ev4 with
              | bad => rw [hv] at hl'; cases hl'
              | ex x' e' => rw [hv] at hl'; cases hl'
              | ok q ev5 =>
                rw [hv] at hl'
                intro H7 Z7 A7 s7 R8 z' rz
                obtain ⟨Z8, s8, R9, rz'⟩ := R8.stl rz
                simp only at hl'
                split at hl'
                · rename_i yv ev6 hy
                  obtain ⟨Z9, A9, s9, R10, rq'⟩ := R9.esc rz' hy
                  split at hl'
                  · rename_i hok
                    have sz : Same Z2 Z9 := (((((s3.trans s4).trans s5).trans s6).trans s7).trans s8).trans s9
                    obtain ⟨R11, k1, k2, k3⟩ := un R10 sz
                    obtain ⟨ev0', hw2⟩ := dcL_wiped hl'
                    have R12 := R11.wiped hw2
                    rw [hσ] at R12
                    obtain ⟨_, H8, pu, keep, oc8⟩ := k1.putd R12.sub (rp'.mono ((s7.trans s8).trans s9)) rq' hok (by omega)
                    refine ⟨H8, pu, putKV acc x' yv, ev6, ev0', Z9, A9, (s.trans g.zz).trans sz, hw2, ?_, oc8, k2, k3, by have := putKV_len (kvs := acc) (x := x') (y := yv); omega, hl'⟩
                    obtain ⟨u8, hu8⟩ : ∃ u, H8 dA = some u := by
                      cases q : H8 dA with
                      | none => exact absurd q (oc8.alive dA (by simp))
                      | some u => exact ⟨u, rfl⟩
                    have eH : H8 = upd H7 dA u8 := by
                      funext p
                      by_cases hp : p = dA
                      · rw [hp, upd_same]; exact hu8
                      · rw [upd_ne hp]; exact keep p hp
                    rw [eH]
                    exact R12.aside k2 k3 n2 n3 (k1.noTbl dA (by simp)) (k1.noExt dA (by simp))
                  · cases hl'
                · cases hl'
            · cases hl'
    · cases hl'
  · obtain ⟨acc, ev', ev0, Z', A', s, hw', R', oc, zd, ad, la, hl'⟩ := h
    rw [List.drop_eq_nil_of_le (Nat.le_refl _)] at hl'
    simp only [dcL, hw'] at hl'
    cases hl'
    exact hQ H' Z' A' s (R.unwiped hw R' hw' s) (.ref dA) ⟨dA, [dA], rfl, oc, by simp, fun b hb => by
      cases List.mem_singleton.mp hb
      exact ⟨zd, n2, n3, ad⟩⟩
end
/-! ### a dict is locked -/
/-- the same dict, locked or not -/
def Lk (o o' : HO) : Prop := (∃ ks, (o = .dK ks ∨ ∃ q, o = .frz q (.dK ks)) ∧ (o' = .dK ks ∨ ∃ q, o' = .frz q (.dK ks))) ∨ ∃ ks, (o = .dT ks ∨ ∃ q, o = .frz q (.dT ks)) ∧ (o' = .dT ks ∨ ∃ q, o' = .frz q (.dT ks))
theorem Lk.symm {o o' : HO} (l : Lk o o') : Lk o' o := by
  rcases l with ⟨ks, a, b⟩ | ⟨ks, a, b⟩
  · exact .inl ⟨ks, b, a⟩
  · exact .inr ⟨ks, b, a⟩
theorem Lk.kinds {o o' : HO} (l : Lk o o') : (∀ ps, o ≠ .tbl ps) ∧ (∀ φ, o ≠ .ext φ) ∧ ∀ ps, o' ≠ .tbl ps := by
  refine ⟨fun ps h => ?_, fun φ h => ?_, fun ps h => ?_⟩ <;>
  (subst h; rcases l with ⟨ks, a | ⟨q, a⟩, b | ⟨q', b⟩⟩ | ⟨ks, a | ⟨q, a⟩, b | ⟨q', b⟩⟩ <;> first | (cases a; done) | (cases b; done))
theorem Lk.notTup {o o' : HO} (l : Lk o o') : ¬ HoTup o := by
  rintro ⟨xs, rfl⟩
  rcases l with ⟨ks, a | ⟨q, a⟩, _⟩ | ⟨ks, a | ⟨q, a⟩, _⟩ <;> cases a
/-- another object at d, where there is one -/
def chg (f : Hp) (d : Addr) (u : HO) : Hp := fun p => if p = d then (f d).map fun _ => u else f p
section
variable {K : PySem.W.Frag} {Z H Z' H' f : Hp} {d : Addr} {o o' : HO}
theorem chg_at : chg f d o d = (f d).map fun _ => o := if_pos rfl
theorem chg_ne {p : Addr} (h : p ≠ d) : chg f d o p = f p := if_neg h
theorem chg_upd {u : HO} (h : f d = some u) : chg f d o = upd f d o := by
  funext p
  by_cases hp : p = d
  · rw [hp, chg_at, upd_same, h]; rfl
  · rw [chg_ne hp, upd_ne hp]
theorem chg_same (s : Same Z Z') : Same (chg Z d o) (chg Z' d o) := fun p u e => by
  by_cases hp : p = d
  · rw [hp, chg_at] at e ⊢
    cases q : Z d with
    | none => rw [q] at e; cases e
    | some z => rw [q] at e; rw [s d z q]; exact e
  · rw [chg_ne hp] at e ⊢; exact s p u e
theorem chg_none {p : Addr} (h : f p = none) : chg f d o p = none := by
  by_cases hp : p = d
  · rw [hp] at h ⊢; rw [chg_at, h]; rfl
  · rw [chg_ne hp]; exact h
theorem none_chg {p : Addr} (h : chg f d o p = none) : f p = none := by
  by_cases hp : p = d
  · rw [hp, chg_at] at h
    rw [hp]
    cases q : f d with
    | none => rfl
    | some z => rw [q] at h; cases h
  · rw [chg_ne hp] at h; exact h
theorem rd_lk {a : Addr} {u : HO} (l : Lk o o') (h : Z d = some o) (hu : (∃ ks, u = .dK ks) ∨ ∃ ks, u = .dT ks) (r : Rd Z a u) : Rd (chg Z d o') a u := by
  by_cases ha : a = d
  · subst ha
    have e : chg Z a o' a = some o' := by rw [chg_at, h]; rfl
    rcases r with r | ⟨q, r⟩ <;> (rw [h] at r; cases r) <;> rcases hu with ⟨ks, rfl⟩ | ⟨ks, rfl⟩ <;> rcases l with ⟨ks', x | ⟨q', x⟩, y | ⟨q2, y⟩⟩ | ⟨ks', x | ⟨q', x⟩, y | ⟨q2, y⟩⟩ <;> cases x <;> cases y <;> first | exact .inl e | exact .inr ⟨_, e⟩
  · rcases r with r | ⟨q, r⟩
    · exact .inl (by rw [chg_ne ha]; exact r)
    · exact .inr ⟨q, by rw [chg_ne ha]; exact r⟩
theorem lk_ne {a : Addr} {u : HO} (l : Lk o o') (h : Z d = some o) (e : Z a = some u) (n1 : ∀ ks, u ≠ .dK ks) (n2 : ∀ ks, u ≠ .dT ks) (n3 : ∀ q ks, u ≠ .frz q (.dK ks)) (n4 : ∀ q ks, u ≠ .frz q (.dT ks)) : a ≠ d := fun ha => by
  subst ha
  rw [h] at e
  cases e
  rcases l with ⟨ks, a | ⟨q, a⟩, _⟩ | ⟨ks, a | ⟨q, a⟩, _⟩
  · exact n1 _ a
  · exact n3 _ _ a
  · exact n2 _ a
  · exact n4 _ _ a
theorem sqL_lk {a : Addr} {xs : List V} (l : Lk o o') (h : Z d = some o) (q : SqL K Z a xs) : SqL K (chg Z d o') a xs := by
  rcases q with (q | ⟨z, q⟩) | q
  · exact .inl (.inl (by rw [chg_ne (lk_ne l h q (fun _ => nofun) (fun _ => nofun) (fun _ _ => nofun) (fun _ _ => nofun))]; exact q))
  · exact .inl (.inr ⟨z, by rw [chg_ne (lk_ne l h q (fun _ => nofun) (fun _ => nofun) (fun _ _ => by simp) (fun _ _ => by simp))]; exact q⟩)
  · exact .inr q
mutual
theorem Rp.lk (l : Lk o o') (h : Z d = some o) : ∀ {v : V} {x : D}, Rp K Z v x → Rp K (chg Z d o') v x
  | _, _, .non => .non
  | _, _, .bl b => .bl b
  | _, _, .int i => .int i
  | _, _, .str x => .str x
  | _, _, .lst g n r => .lst (by rw [chg_ne (lk_ne l h g (fun _ => nofun) (fun _ => nofun) (fun _ _ => nofun) (fun _ _ => nofun))]; exact g) n (Rps.lk l h r)
  | _, _, .scr g n r => .scr (sqL_lk l h g) n (Rps.lk l h r)
  | _, _, .tup g n r => .tup (by rw [chg_ne (lk_ne l h g (fun _ => nofun) (fun _ => nofun) (fun _ _ => nofun) (fun _ _ => nofun))]; exact g) n (Rps.lk l h r)
  | _, _, .ktup g n r => .ktup g n (Rps.lk l h r)
  | _, _, .dk g n r => .dk (rd_lk l h (.inl ⟨_, rfl⟩) g) n (RpK.lk l h r)
  | _, _, .dt g n r => .dt (rd_lk l h (.inr ⟨_, rfl⟩) g) n (RpT.lk l h r)
theorem Rps.lk (l : Lk o o') (h : Z d = some o) : ∀ {v : List V} {x : List D}, Rps K Z v x → Rps K (chg Z d o') v x
  | _, _, .nil => .nil
  | _, _, .cons a r => .cons (Rp.lk l h a) (Rps.lk l h r)
theorem RpK.lk (l : Lk o o') (h : Z d = some o) : ∀ {v : List (Key × V)} {x : List (D × D)}, RpK K Z v x → RpK K (chg Z d o') v x
  | _, _, .nil => .nil
  | _, _, .cons a r => .cons (Rp.lk l h a) (RpK.lk l h r)
theorem RpT.lk (l : Lk o o') (h : Z d = some o) : ∀ {v : List (List Key × V)} {x : List (D × D)}, RpT K Z v x → RpT K (chg Z d o') v x
  | _, _, .nil => .nil
  | _, _, .cons n a r => .cons n (Rp.lk l h a) (RpT.lk l h r)
end
theorem OC.lk {as : List Addr} {a : Addr} {v : OV} (l : Lk o o') (h : Z d = some o) (q : OC K Z H as a v) (k : ∀ b ∈ as, H' b = H b) : OC K (chg Z d o') H' as a v := by
  cases v with
  | l ds =>
    obtain ⟨rfl, xs, h1, h2, h3⟩ := q
    exact ⟨rfl, xs, by rw [k _ (by simp)]; exact h1, h2, h3.lk l h⟩
  | d t kvs =>
    cases t
    · obtain ⟨rfl, xs, h1, h2, h3⟩ := q
      exact ⟨rfl, xs, by rw [k _ (by simp)]; exact h1, h2, h3.lk l h⟩
    · obtain ⟨rfl, xs, h1, h2, h3⟩ := q
      exact ⟨rfl, xs, by rw [k _ (by simp)]; exact h1, h2, h3.lk l h⟩
  | ll dss =>
    obtain ⟨bs, rfl, h1, h2, hl, hr⟩ := q
    refine ⟨bs, rfl, by rw [k _ (by simp)]; exact h1, h2, hl, fun i b ds e1 e2 => ?_⟩
    obtain ⟨xs, q1, q2, q3⟩ := hr i b ds e1 e2
    exact ⟨xs, by rw [k b (by simp [List.mem_of_getElem? e1])]; exact q1, q2, q3.lk l h⟩
end
def En.lk (c : En) (d : Addr) (u : HO) : En := { c with H := chg c.H d u, Z := chg c.Z d u }
section
variable {K : PySem.W.Frag} {c : En} {σ : L2.St} {H Z : Hp} {ev : Ev} {A : Nat → List Addr} {d : Addr} {o o' : HO}
theorem RS.swap (R : RS K c σ H Z ev A) (l : Lk o o') (h : Z d = some o) : RS K (c.lk d o') σ (upd H d o') (chg Z d o') ev A := by
  have nd : ∀ {p : Addr}, Z p = none → p ≠ d := fun z e => by rw [e, h] at z; cases z
  have zd : chg Z d o' d = some o' := by rw [chg_at, h]; rfl
  exact {
    len := R.len
    sub := fun p u e => by
      by_cases hp : p = d
      · rw [hp] at e ⊢; rw [zd] at e; rw [upd_same]; exact e
      · rw [chg_ne hp] at e; rw [upd_ne hp]; exact R.sub p u e
    z0 := chg_same R.z0
    zf := fun p u e => by
      by_cases hp : p = d
      · rw [hp] at e ⊢
        rcases R.zf d o h with q | q | q
        · refine .inl ?_
          rw [zd] at e
          show chg c.Z d o' d = some u
          rw [chg_at, q]; exact e
        · exact .inr (.inl (chg_none q))
        · exact absurd q l.notTup
      · rw [chg_ne hp] at e
        rcases R.zf p u e with q | q | q
        · refine .inl ?_
          show chg c.Z d o' p = some u
          rw [chg_ne hp]; exact q
        · exact .inr (.inl (chg_none q))
        · exact .inr (.inr q)
    tk := fun p ps e => by
      have e : chg c.H d o' p = some (.tbl ps) := e
      by_cases hp : p = d
      · rw [hp, chg_at] at e
        cases q : c.H d with
        | none => rw [q] at e; cases e
        | some z => rw [q] at e; exact absurd (Option.some.inj e) (l.kinds.2.2 ps)
      · rw [chg_ne hp] at e; rw [upd_ne hp]; exact R.tk p ps e
    nz := fun p ps e => by
      by_cases hp : p = d
      · rw [hp, zd] at e; exact l.kinds.2.2 ps (Option.some.inj e)
      · rw [chg_ne hp] at e; exact R.nz p ps e
    tb := fun x P e => by
      obtain ⟨ps, h1, h2, h3⟩ := R.tb x P e
      have hd := R.sub d o h
      refine ⟨ps, by rw [upd_ne (fun y => by rw [y, hd] at h1; exact l.kinds.1 ps (Option.some.inj h1))]; exact h1, h2, fun pos cv q => ?_⟩
      obtain ⟨c', e1, e2⟩ := h3 pos cv q
      exact ⟨c', e1, by rw [upd_ne (fun y => by subst y; rw [hd] at e2; exact l.kinds.2.1 _ (Option.some.inj e2))]; exact e2⟩
    fz := R.fz
    fr := fun p u e n t => by
      have e : chg c.H d o' p = some u := e
      by_cases hp : p = d
      · rw [hp] at e ⊢
        rw [chg_at] at e
        rw [upd_same]
        cases q : c.H d with
        | none => rw [q] at e; cases e
        | some z => rw [q] at e; exact e
      · rw [chg_ne hp] at e; rw [upd_ne hp]; exact R.fr p u e n t
    sl := fun i sv e => by
      have q := R.sl i sv e
      have k : ∀ b ∈ A i, upd H d o' b = H b := fun b hb => upd_ne (nd (R.zo i b hb))
      cases sv with
      | no => exact q
      | sh x => obtain ⟨q0, v, q1, q2⟩ := q; exact ⟨q0, v, q1, q2.lk l h⟩
      | ow x => obtain ⟨a, q1, q2⟩ := q; exact ⟨a, q1, q2.lk l h k⟩
      | io x => obtain ⟨a, q1, q2⟩ := q; exact ⟨a, q1, q2.lk l h k⟩
    out := R.out
    zo := fun i a ha => chg_none (R.zo i a ha)
    ao := fun i a ha => by
      rcases R.ao i a ha with q | q
      · exact .inl q
      · exact .inr (chg_none q)
    dis := R.dis
    nod := R.nod
    io := R.io
    oi := R.oi
    pf := fun p u e => by
      obtain ⟨h1, h2, h3⟩ := R.pf p u e
      exact ⟨by rw [upd_ne (nd h2)]; exact h1, chg_none h2, h3⟩
    ft := R.ft }
theorem RR.swap {x : V} {r : RV} (l : Lk o o') (h : Z d = some o) (q : RR K c σ H Z ev A x r) : RR K (c.lk d o') σ (upd H d o') (chg Z d o') ev A x r := by
  cases r with
  | v y => exact Rp.lk l h q
  | s i => exact q
  | f v =>
    obtain ⟨a, as, e, oc, n, hb⟩ := q
    have nd : ∀ {p : Addr}, Z p = none → p ≠ d := fun z e => by rw [e, h] at z; cases z
    exact ⟨a, as, e, oc.lk l h fun b hm => upd_ne (nd (hb b hm).1), n, fun b hm => ⟨chg_none (hb b hm).1, chg_none (hb b hm).2.1, (hb b hm).2.2.1, (hb b hm).2.2.2⟩⟩
theorem RS.lkBack (R : RS K c σ H Z ev A) (h : Z d = some o) : (c.lk d o').lk d o = c := by
  have eZ : chg (chg c.Z d o') d o = c.Z := by
    funext p
    by_cases hp : p = d
    · rw [hp, chg_at, chg_at]
      cases q : c.Z d with
      | none => rfl
      | some z =>
        have := R.z0 d z q
        rw [h] at this
        cases this
        rfl
    · rw [chg_ne hp, chg_ne hp]
  have eH : chg (chg c.H d o') d o = c.H := by
    funext p
    by_cases hp : p = d
    · rw [hp, chg_at, chg_at]
      cases q : c.H d with
      | none => rfl
      | some z =>
        have nt : ∀ ps, z ≠ .tbl ps := fun ps y => by
          subst y
          obtain ⟨qs, w⟩ := R.tk d ps q
          exact R.nz d qs (by rw [h]; rw [R.sub d o h] at w; exact w)
        have := R.fr d z q (fun i hi => by
          have ha := (R.io i d hi).1
          have := R.zo i d (by rw [ha]; simp)
          rw [h] at this
          cases this) nt
        rw [R.sub d o h] at this
        cases this
        rfl
    · rw [chg_ne hp, chg_ne hp]
  show ({ c with H := chg (chg c.H d o') d o, Z := chg (chg c.Z d o') d o } : En) = c
  rw [eZ, eH]
end
/-! ### the walk of a dict's keys -/
section
variable {K : PySem.W.Frag} {Z0 : Hp} {d : Addr} {q : Obj}
theorem RpK.at : ∀ {ks : List (Key × V)} {kvs : List (D × D)} {i : Nat} {k : Key} {v : V}, RpK K Z0 ks kvs → ks[i]? = some (k, v) → (kvs.map (·.1))[i]? = some (keyD k)
  | _, _, _, _, _, .nil, e => by simp at e
  | _, _, 0, _, _, .cons h r, e => by simp at e; obtain ⟨rfl, rfl⟩ := e; rfl
  | _, _, i + 1, _, _, .cons h r, e => by
    have := RpK.at (i := i) r (by simpa using e)
    simpa using this
theorem RpT.at : ∀ {ks : List (List Key × V)} {kvs : List (D × D)} {i : Nat} {k : List Key} {v : V}, RpT K Z0 ks kvs → ks[i]? = some (k, v) → (kvs.map (·.1))[i]? = some (.tuple (k.map keyD)) ∧ k.length ≤ sizeLine
  | _, _, _, _, _, .nil, e => by simp at e
  | _, _, 0, _, _, .cons l h r, e => by simp at e; obtain ⟨rfl, rfl⟩ := e; exact ⟨rfl, l⟩
  | _, _, i + 1, _, _, .cons l h r, e => by
    have := RpT.at (i := i) r (by simpa using e)
    simpa using this
theorem keys_rps {Z : Hp} : ∀ (k : List Key), Rps K Z (k.map kV) (k.map keyD)
  | [] => .nil
  | .inl i :: r => .cons (.int i) (keys_rps r)
  | .inr x :: r => .cons (.str x) (keys_rps r)
theorem walkOk_keys {ks : List (Key × V)} {kvs : List (D × D)} (l : ks.length ≤ sizeLine) (h : Z0 d = some (.frz q (.dK ks))) (r : RpK K Z0 ks kvs) : WalkOk K (Itk d q ks) Z0 (kvs.map (·.1)) := by
  have e : (kvs.map (·.1)).length = ks.length := by rw [List.length_map, r.length]
  refine ⟨by rw [e]; exact l, _, _, by rw [e]; exact walk_keys, fun Z H s1 s2 => s2 _ _ (s1 _ _ h), fun i H x H' Z _ y s1 s2 => ?_⟩
  obtain ⟨rfl, k, v, hx, rfl⟩ := y
  exact ⟨Z, keyD k, r.at hx, Grow.refl s2, by cases k with
    | inl i => exact .int i
    | inr s => exact .str s⟩
theorem walkOk_keysT {ks : List (List Key × V)} {kvs : List (D × D)} (l : ks.length ≤ sizeLine) (h : Z0 d = some (.frz q (.dT ks))) (r : RpT K Z0 ks kvs) : WalkOk K (Itkt d q ks) Z0 (kvs.map (·.1)) := by
  have e : (kvs.map (·.1)).length = ks.length := by rw [List.length_map, r.length]
  refine ⟨by rw [e]; exact l, _, _, by rw [e]; exact walk_keysT, fun Z H s1 s2 => s2 _ _ (s1 _ _ h), fun i H x H' Z _ y s1 s2 => ?_⟩
  obtain ⟨rfl, k, v, p, hx, rfl, hp⟩ := y
  obtain ⟨g1, g2⟩ := r.at hx
  refine ⟨upd Z p (.tup (k.map kV)), .tuple (k.map keyD), g1, ⟨fun b u e => ?_, fun b u e => ?_, fun b u e => ?_, fun b ps e => by
    by_cases hb : b = p
    · rw [hb, upd_same] at e; cases e
    · rw [upd_ne hb] at e; exact e, Same.refl _⟩, .tup upd_same (by rw [List.length_map]; exact g2) (keys_rps k)⟩
  · by_cases hb : b = p
    · rw [hb] at e ⊢
      rw [upd_same, ← hp, s2 p u e]
    · rw [upd_ne hb]; exact e
  · by_cases hb : b = p
    · rw [hb] at e ⊢
      rw [upd_same] at e
      rw [hp]; exact e
    · rw [upd_ne hb] at e; exact s2 b u e
  · by_cases hb : b = p
    · rw [hb, upd_same] at e
      cases e
      exact .inr (.inr ⟨_, rfl⟩)
    · rw [upd_ne hb] at e; exact .inl e
end
end Bide

set_option autoImplicit false
set_option Elab.async false
set_option maxRecDepth 100000
set_option linter.all false
set_option maxHeartbeats 4000000
/-! The soundness of expressions: what the small language's evaluation says, the text of Python does. -/
namespace Bide
open PySem L2
theorem XOk.units {w : Wd} {k : Nat} {N : List Str} {fb : Str → Bool} {X : Cx} (h : XOk w k N fb X) : X.A.units + 65 < cLine := by
  have := h.room.un
  omega
theorem XOk.blk {w : Wd} {k : Nat} {N : List Str} {fb : Str → Bool} {X : Cx} (h : XOk w k N fb X) (c : En) (hc : c.ca = w.c.ca) {s : Shared} {H : Hp} {scope : Scope} {cenv : Env} {fp : List Addr} (hq : cenv.qual = X.env.qual := by rfl) (hd : cenv.code = X.env.code := by rfl) :
    XOk (w.blk c) k N (blkFb scope) (X.blk s H scope cenv fp) :=
  ⟨h.K, h.N, h.calm, h.nd, h.room, by
    intro f F e
    obtain ⟨a, fd, ps, q1, q2, q3, q4⟩ := h.fns f F e
    exact ⟨a, fd, ps, q1, q2, q3, by show FnOk _ _ _ _ _ _ _ _ _ _ (spOf _ c.ca _ _); rw [hc]; exact q4⟩, h.gls, h.blt, fun _ z => z, by
    intro x e
    obtain ⟨P, d, q1, q2, q3, q4, q5⟩ := h.lam x e
    exact ⟨P, d, by show c.ca _ = _; rw [hc]; exact q1, by show cenv.qual ++ _ = _; rw [hq]; exact q2, by show cenv.code = _; rw [hd]; exact q3, q4, fun y P' z => q5 y P' (by rw [← hc]; exact z)⟩⟩
theorem takesF {X : Cx} : Takes X (fun _ _ _ _ => False) := fun _ _ ⟨_, _, _, _, _, _, _, _, _, _, _, _, _, _, _, _, z⟩ => z.elim
section
variable {X : Cx} {x : Str} {p pos : Pos} {es : List Expr} {e : Expr} {t : TA}
theorem pe_blt (f : Blt) (hc : X.calm = true) (hu : X.A.units + 65 < cLine) (hx : x = sN f.nm) (hg : Gl X x) (hm : X.mg x = none) (ha : PA X (e :: es) t) (he : starEach (e :: es) X.env = (false, eval e X.env) :: starEach es X.env)
    (hpl : (backTo pos (starEach es X.env)).any (·.1) = false) : PE X (.Call (.Name x p) (e :: es) [] pos) (tCB (bOf X.K (Bide.blt f)) t) := by
  have r := blt_ok hc hu f
  subst hx
  cases f
  case len => exact pe_callB r hg hm (by decide +kernel) ha (by decide +kernel) (by decide +kernel) he hpl
  case abs => exact pe_callB r hg hm (by decide +kernel) ha (by decide +kernel) (by decide +kernel) he hpl
  case int => exact pe_callTy r hg hm (by decide +kernel) ha (by decide +kernel) (by decide +kernel) he hpl
  case sum => exact pe_callB r hg hm (by decide +kernel) ha (by decide +kernel) (by decide +kernel) he hpl
  case all => exact pe_callB r hg hm (by decide +kernel) ha (by decide +kernel) (by decide +kernel) he hpl
  case any => exact pe_callB r hg hm (by decide +kernel) ha (by decide +kernel) (by decide +kernel) he hpl
  case max1 => exact pe_callB r hg hm (by decide +kernel) ha (by decide +kernel) (by decide +kernel) he hpl
  case min1 => exact pe_callB r hg hm (by decide +kernel) ha (by decide +kernel) (by decide +kernel) he hpl
  case max2 => exact pe_callB r hg hm (by decide +kernel) ha (by decide +kernel) (by decide +kernel) he hpl
  case min2 => exact pe_callB r hg hm (by decide +kernel) ha (by decide +kernel) (by decide +kernel) he hpl
  case tuple => exact pe_callTy r hg hm (by decide +kernel) ha (by decide +kernel) (by decide +kernel) he hpl
  case list => exact pe_callTy r hg hm (by decide +kernel) ha (by decide +kernel) (by decide +kernel) he hpl
  case sorted => exact pe_callB r hg hm (by decide +kernel) ha (by decide +kernel) (by decide +kernel) he hpl
theorem blt_mem (f : Blt) : f.nm ∈ bltNames := by cases f <;> decide
theorem ty_mem (f : Ty) : f.nm ∈ bltNames := by cases f <;> decide
theorem isi_ok {K : PySem.W.Frag} {Z H : Hp} {y : V} {d : D} {ty : Ty} {b : Bool} (s : Same Z H) (h : RdV K Z H y d) (e : isTy ty d = some b) : ∃ t, TyX K H y t ∧ PySem.W.kitOne K t (.type ty.nm) = some b := by
  cases d with
  | none => cases h.none; exact ⟨_, .base .non, by cases ty <;> cases e <;> exact kit_ty (by decide +kernel)⟩
  | bool v => cases h.bool; exact ⟨_, .base (.bl _), by cases ty <;> cases e <;> exact kit_ty (by decide +kernel)⟩
  | int v => cases h.int; exact ⟨_, .base (.int _), by cases ty <;> cases e <;> exact kit_ty (by decide +kernel)⟩
  | str v => cases h.str; exact ⟨_, .base (.str _), by cases ty <;> cases e <;> exact kit_ty (by decide +kernel)⟩
  | list v =>
    obtain ⟨a, xs, rfl, h1, _⟩ := h.list s
    exact ⟨_, .base (.lst h1), by cases ty <;> cases e <;> exact kit_ty (by decide +kernel)⟩
  | tuple v =>
    obtain ⟨a, xs, rfl, h1, _⟩ := h.tuple s
    exact ⟨_, .base (.tup h1), by cases ty <;> cases e <;> exact kit_ty (by decide +kernel)⟩
  | dict v =>
    have key : ∃ kvs, v = (.bool false, .none) :: kvs ∧ b = false := by
      rcases v with _ | ⟨⟨k, u⟩, kvs⟩
      · cases ty <;> (simp [isTy] at e)
      · cases k <;> cases u <;> first | (cases ty <;> (simp [isTy] at e); done) | skip
        rename_i bb
        cases bb with
        | false => exact ⟨kvs, rfl, by cases ty <;> (simp [isTy] at e; exact e)⟩
        | true => cases ty <;> (simp [isTy] at e)
    obtain ⟨kvs, rfl, rfl⟩ := key
    obtain ⟨a, ks, rfl, h1, _⟩ := h.dict s
    rcases h1 with h1 | ⟨o, h1⟩
    · exact ⟨_, .base (.dK h1), by cases ty <;> exact kit_ty (by decide +kernel)⟩
    · exact ⟨_, .fDict h1, by cases ty <;> exact kit_ty (by decide +kernel)⟩
end
theorem fold_of {py : Expr} {env : Env} (h : noStar py = true) (x : Value) : foldedSetIterable py env x = pure x := by
  cases py <;> first | rfl | (simp [noStar] at h)
theorem plain_of {py : Expr} {env : Env} (h : plainPy py = true) (whole : Sem Value) : isTrue py env whole = (do let v ← whole; standAt py.pos; holding [v] (truthy v)) := by
  cases py <;> first | rfl | (simp [plainPy] at h)
theorem rd_slot {X : Cx} {N : List Str} {i : Nat} {x : Str} {pos : Pos} (hN : X.N = N) (h : rdSlot N X.env.scope i x = true) : PE X (.Name x pos) (tVar i) := by
  unfold rdSlot at h
  simp only [Bool.and_eq_true, decide_eq_true_eq] at h
  exact pe_var (by rw [hN]; exact h.1.1) (vis_vis h.1.2) (okN1 h.2) (okN2 h.2)

theorem pw_bool {X : Cx} {op : BoolOp} {es : List Expr} {pos : Pos} {t : TT} (h : PT X (.BoolOp op es pos) t) : PW X (.BoolOp op es pos) t := ⟨fun _ pins s σ H Q I q => h.run pins s σ H Q I q⟩
theorem spot {w : Wd} {σ : L2.St} {H Z : Hp} {ev : Ev} {A : Nat → List Addr} {i : Nat} {xs : List D} (R : RS w.K w.c σ H Z ev A) (e : ownL ev[i]? = some xs) :
    ∃ a ys, σ[i]? = some (some (.ref a)) ∧ A i = [a] ∧ H a = some (.lst ys) ∧ ys.length ≤ sizeLine ∧ Rps w.K Z ys xs ∧ ∀ (H' : Hp) (ys' : List V) (xs' : List D), (∀ b, b ≠ a → H' b = H b) → H' a = some (.lst ys') → ys'.length ≤ sizeLine → Rps w.K Z ys' xs' →
      RS w.K w.c σ H' Z (putL ev i xs') A := by
  cases hs : ev[i]? with
  | none => rw [hs] at e; cases e
  | some sv =>
    rw [hs] at e
    have ne : ∀ {a : Addr} {b : Addr}, A i = [a] → b ∉ A i → b ≠ a := fun h n z => n (by rw [h, z]; simp)
    cases sv with
    | no => cases e
    | sh d => cases e
    | io ds =>
      cases e
      obtain ⟨a, e1, e2, ys, g1, g2, g3⟩ := R.sl i _ hs
      refine ⟨a, ys, e1, e2, g1, g2, g3, fun H' ys' xs' k h1 h2 h3 => ?_⟩
      have q := R.change (sw := .io xs') hs (.inr ⟨trivial, trivial⟩) (fun b hb => k b (ne e2 hb)) ⟨a, e1, e2, ys', h1, h2, h3⟩
      unfold putL
      rw [hs]; exact q
    | ow o =>
      cases o with
      | l ds =>
        cases e
        obtain ⟨a, e1, e2, ys, g1, g2, g3⟩ := R.sl i _ hs
        refine ⟨a, ys, e1, e2, g1, g2, g3, fun H' ys' xs' k h1 h2 h3 => ?_⟩
        have q := R.change (sw := .ow (.l xs')) hs (.inl ⟨id, id⟩) (fun b hb => k b (ne e2 hb)) ⟨a, e1, e2, ys', h1, h2, h3⟩
        unfold putL
        rw [hs]; exact q
      | d t kvs => cases e
      | ll dss => cases e
theorem erase_ix : ∀ {ns : List Int} {i : Int}, i ∈ ns → ∃ j, ns[j]? = some i ∧ (∀ m : Nat, m < j → ns[m]? ≠ some i) ∧ ns.erase i = ns.eraseIdx j
  | [], _, h => by cases h
  | x :: ns, i, h => by
    by_cases e : x = i
    · subst e
      exact ⟨0, rfl, fun m hm => by omega, by simp⟩
    · have h' : i ∈ ns := by
        rcases List.mem_cons.mp h with q | q
        · exact absurd q.symm e
        · exact q
      obtain ⟨j, h1, h2, h3⟩ := erase_ix h'
      refine ⟨j + 1, by simpa using h1, fun m hm => ?_, ?_⟩
      · cases m with
        | zero => simpa using e
        | succ m => simpa using h2 m (by omega)
      · rw [List.erase_cons_tail (by simpa using e), h3]
        rfl
/-- a list changed by its method -/
theorem mth_ok {X : Cx} {K : PySem.W.Frag} (hK : X.K = K) (m : Mth) : ∃ (id : String) (r : V → List V → Hp → VK → Prop), PySem.Slot "list" (sN m.nm) id ∧ typeOf (.builtin id) = pure (.type "method_descriptor") ∧ MtR X id r ∧
    ∀ {Z H : Hp} {a : Addr} {ys : List V} {xs : List D} {y : V} {d e : D} {xs' : List D} {Q : VK}, Same Z H → H a = some (.lst ys) → ys.length ≤ sizeLine → Rps K Z ys xs → Rp K Z y d → mth m xs d = some (e, xs') →
      (∀ z ys', Rp K Z z e → ys'.length ≤ sizeLine → Rps K Z ys' xs' → Q z (upd H a (.lst ys'))) → r (.ref a) [y] H Q := by
  cases m with
  | append =>
    refine ⟨_, _, PySem.F.slot_list_append, PySem.F.type_list_append, mt_append, fun {Z H a ys xs y d e xs' Q} s h l r ry hm k => ?_⟩
    simp only [mth] at hm
    split at hm <;> cases hm
    rename_i hl
    rw [line_eq] at hl
    have e1 := r.length
    exact ⟨a, ys, y, rfl, rfl, h, by omega, k _ _ .non (by rw [List.length_append]; simp; omega) (r.append (.cons ry .nil))⟩
  | extend =>
    refine ⟨_, _, PySem.F.slot_list_extend, PySem.F.type_list_extend, mt_extend, fun {Z H a ys xs y d e xs' Q} s h l r ry hm k => ?_⟩
    cases d <;> (simp only [mth] at hm) <;> first | (cases hm; done) | skip
    split at hm <;> cases hm
    rename_i hl
    rw [line_eq] at hl
    cases ry with
    | lst g1 g2 g3 =>
      have e1 := r.length
      have e2 := g3.length
      exact ⟨a, _, ys, _, rfl, rfl, h, s _ _ g1, by omega, k _ _ .non (by rw [List.length_append]; omega) (r.append g3)⟩
  | remove =>
    refine ⟨_, _, PySem.F.slot_list_remove, PySem.F.type_list_remove, mt_remove, fun {Z H a ys xs y d e xs' Q} s h l r ry hm k => ?_⟩
    cases d <;> (simp only [mth] at hm) <;> first | (cases hm; done) | skip
    rename_i i
    split at hm
    · rename_i ns hn
      split at hm <;> cases hm
      rename_i hin
      cases ry
      have e1 := r.ints hn
      subst e1
      obtain ⟨j, hj, hjn, he⟩ := erase_ix hin
      refine ⟨a, ns, i, j, rfl, rfl, h, hj, hjn, ?_⟩
      rw [← he]
      refine k _ _ .non ?_ (Rps.ofInts _)
      rw [List.length_map] at l ⊢
      have := List.length_erase_of_mem hin
      omega
    · cases hm
  | pop1 =>
    refine ⟨_, _, PySem.F.slot_list_pop, PySem.F.type_list_pop, mt_popAt, fun {Z H a ys xs y d e xs' Q} s h l r ry hm k => ?_⟩
    cases d <;> (simp only [mth] at hm) <;> first | (cases hm; done) | skip
    rename_i i
    split at hm
    · rename_i h0
      split at hm <;> cases hm
      rename_i hx
      cases ry
      obtain ⟨z, hz, rz⟩ := r.getD hx
      have hlt : i.toNat < ys.length := (List.getElem?_eq_some_iff.mp hz).1
      have hle : (ys.length : Int) ≤ 16777216 := by
        have := l
        rw [sizeLine_eq] at this
        omega
      have hix : ixN ys.length i = some i.toNat := by
        unfold ixN
        rw [if_pos h0, if_pos (by omega)]
      refine ⟨a, ys, i, i.toNat, z, rfl, rfl, h, by omega, by omega, (ixN_seq hix).1, hz, k _ _ rz ?_ (r.erase _)⟩
      exact Nat.le_trans (len_erase _ _) l
    · cases hm
theorem atD_ix {α : Type} {xs : List α} {i : Int} {v : α} (h : atD xs i = some v) : ∃ k, ixN xs.length i = some k ∧ xs[k]? = some v := by
  rw [atD_atI] at h
  unfold atI at h
  cases e : ixN xs.length i with
  | none => rw [e] at h; cases h
  | some k => rw [e] at h; exact ⟨k, rfl, h⟩
theorem ll_spot {w : Wd} {σ : L2.St} {H Z : Hp} {ev : Ev} {A : Nat → List Addr} {i : Nat} {xss : List (List D)} (R : RS w.K w.c σ H Z ev A) (e : ownLL ev[i]? = some xss) :
    ev[i]? = some (.ow (.ll xss)) ∧ ∃ a bs, σ[i]? = some (some (.ref a)) ∧ A i = a :: bs ∧ H a = some (.lst (bs.map V.ref)) ∧ bs.length ≤ sizeLine ∧ bs.length = xss.length ∧
      ∀ (k : Nat) b ds, bs[k]? = some b → xss[k]? = some ds → ∃ xs, H b = some (.lst xs) ∧ xs.length ≤ sizeLine ∧ Rps w.K Z xs ds := by
  cases hs : ev[i]? with
  | none => rw [hs] at e; cases e
  | some sv =>
    rw [hs] at e
    cases sv with
    | no => cases e
    | sh d => cases e
    | io ds => cases e
    | ow o =>
      cases o with
      | l ds => cases e
      | d t kvs => cases e
      | ll dss =>
        cases e
        obtain ⟨a, e1, bs, e2, g1, g2, g3, g4⟩ := R.sl i _ hs
        exact ⟨rfl, a, bs, e1, e2, g1, g2, g3, g4⟩
theorem ll_at {K : PySem.W.Frag} {H Z : Hp} {bs : List Addr} {xss : List (List D)} {m : Int} {ds : List D} (hl : bs.length = xss.length)
    (h : ∀ (k : Nat) b ds, bs[k]? = some b → xss[k]? = some ds → ∃ xs, H b = some (.lst xs) ∧ xs.length ≤ sizeLine ∧ Rps K Z xs ds) (e : atD xss m = some ds) :
    ∃ k b xs, ixN xss.length m = some k ∧ bs[k]? = some b ∧ xss[k]? = some ds ∧ atI (bs.map V.ref) m = some (.ref b) ∧ H b = some (.lst xs) ∧ xs.length ≤ sizeLine ∧ Rps K Z xs ds := by
  obtain ⟨k, h1, h2⟩ := atD_ix e
  have hk : k < bs.length := by rw [hl]; exact (List.getElem?_eq_some_iff.mp h2).1
  obtain ⟨xs, g1, g2, g3⟩ := h k bs[k] ds (List.getElem?_eq_getElem hk) h2
  refine ⟨k, bs[k], xs, h1, List.getElem?_eq_getElem hk, h2, ?_, g1, g2, g3⟩
  unfold atI
  rw [List.length_map, hl, h1]
  show (bs.map V.ref)[k]? = _
  rw [List.getElem?_map, List.getElem?_eq_getElem hk]
  rfl
theorem cmp_bool {c : Cf} {o : Cop} {a b : E} {ev e : Ev} {r : RV} (h : evE c (.cmp o a b) ev = .ok r e) : ∃ k, r = .v (.bool k) := by
  simp only [evE] at h
  cases h1 : evE c a ev with
  | bad => rw [h1] at h; cases h
  | ex _ _ => rw [h1] at h; cases h
  | ok r1 e1 =>
    rw [h1] at h
    simp only [R.bind] at h
    cases h2 : evE c b e1 with
    | bad => rw [h2] at h; cases h
    | ex _ _ => rw [h2] at h; cases h
    | ok r2 e2 =>
      rw [h2] at h
      simp only at h
      split at h
      · split at h <;> cases h
        exact ⟨_, rfl⟩
      · cases h
theorem chn_bool {c : Cf} {o p : Cop} {a b d : E} {ev e : Ev} {r : RV} (h : evE c (.chn o p a b d) ev = .ok r e) : ∃ k, r = .v (.bool k) := by
  simp only [evE] at h
  cases h1 : evE c a ev with
  | bad => rw [h1] at h; cases h
  | ex _ _ => rw [h1] at h; cases h
  | ok r1 e1 =>
    rw [h1] at h
    simp only [R.bind] at h
    cases h2 : evE c b e1 with
    | bad => rw [h2] at h; cases h
    | ex _ _ => rw [h2] at h; cases h
    | ok r2 e2 =>
      rw [h2] at h
      simp only at h
      split at h
      · split at h
        · cases h3 : evE c d e2 with
          | bad => rw [h3] at h; cases h
          | ex _ _ => rw [h3] at h; cases h
          | ok r3 e3 =>
            rw [h3] at h
            simp only at h
            split at h
            · split at h <;> cases h
              exact ⟨_, rfl⟩
            · cases h
        · cases h; exact ⟨_, rfl⟩
        · cases h
      · cases h
/-- a dict's keys are walked, the dict locked meanwhile -/
theorem keysE_ok {w : Wd} {σ : L2.St} {H Z : Hp} {ev e1 : Ev} {A : Nat → List Addr} {i : Nat} {ds : List D} (R : RS w.K w.c σ H Z ev A) (h : keysE ev i = some (ds, e1)) :
    ∃ Z1 A1 d, Same Z Z1 ∧ RS w.K w.c σ H Z1 e1 A1 ∧ σ[i]? = some (some (.ref d)) ∧ ((∃ q ks, Z1 d = some (.frz q (.dK ks)) ∧ WalkOk w.K (Itk d q ks) Z1 ds) ∨ (∃ q ks, Z1 d = some (.frz q (.dT ks)) ∧ WalkOk w.K (Itkt d q ks) Z1 ds) ∨
      (∃ ks, Z1 d = some (.dK ks) ∧ ∀ q, WalkOk w.K (Itk d q ks) (chg Z1 d (.frz q (.dK ks))) ds) ∨ ∃ ks, Z1 d = some (.dT ks) ∧ ∀ q, WalkOk w.K (Itkt d q ks) (chg Z1 d (.frz q (.dT ks))) ds) := by
  unfold keysE at h
  split at h
  · rename_i t kvs e2 he
    cases h
    have hx : ∃ x, σ[i]? = some (some x) := by
      cases hs : ev[i]? with
      | none => simp only [esc, hs] at he; cases he
      | some sv =>
        have q := R.sl i sv hs
        cases sv with
        | no => simp only [esc, hs] at he; cases he
        | io _ => simp only [esc, hs] at he; cases he
        | sh x => obtain ⟨_, v, q, _⟩ := q; exact ⟨v, q⟩
        | ow o => obtain ⟨a, q, _⟩ := q; exact ⟨_, q⟩
    obtain ⟨x, hx⟩ := hx
    obtain ⟨Z1, A1, s1, R1, rp⟩ := R.esc (r := .s i) hx he
    cases rp with
    | dk g n r =>
      refine ⟨Z1, A1, _, s1, R1, hx, ?_⟩
      rcases g with g | ⟨q, g⟩
      · exact .inr (.inr (.inl ⟨_, g, fun q => walkOk_keys n (by rw [chg_at, g]; rfl) (r.lk (.inl ⟨_, .inl rfl, .inr ⟨q, rfl⟩⟩) g)⟩))
      · exact .inl ⟨q, _, g, walkOk_keys n g r⟩
    | dt g n r =>
      refine ⟨Z1, A1, _, s1, R1, hx, ?_⟩
      rcases g with g | ⟨q, g⟩
      · exact .inr (.inr (.inr ⟨_, g, fun q => walkOk_keysT n (by rw [chg_at, g]; rfl) (r.lk (.inr ⟨_, .inl rfl, .inr ⟨q, rfl⟩⟩) g)⟩))
      · exact .inr (.inl ⟨q, _, g, walkOk_keysT n g r⟩)
  · cases h
/-- behind the lock -/
theorem unlk {w : Wd} {σ σ' : L2.St} {H Z1 H' Z' : Hp} {e1 e : Ev} {A1 A' : Nat → List Addr} {d : Addr} {u u' : HO} (R1 : RS w.K w.c σ H Z1 e1 A1) (g : Z1 d = some u) (l : Lk u u') (s : Same (chg Z1 d u') Z') (R : RS w.K (w.c.lk d u') σ' H' Z' e A') :
    H' d = some u' ∧ Same Z1 (chg Z' d u) ∧ RS w.K w.c σ' (upd H' d u) (chg Z' d u) e A' ∧ ∀ x r, RR w.K (w.c.lk d u') σ' H' Z' e A' x r → RR w.K w.c σ' (upd H' d u) (chg Z' d u) e A' x r := by
  have zd : Z' d = some u' := s d u' (by rw [chg_at, g]; rfl)
  have R2 := R.swap l.symm zd
  rw [R1.lkBack g] at R2
  refine ⟨R.sub d u' zd, fun p o e => ?_, R2, fun x r q => ?_⟩
  · by_cases hp : p = d
    · rw [hp] at e ⊢
      rw [g] at e; rw [chg_at, zd]; exact e
    · rw [chg_ne hp]
      exact s p o (by rw [chg_ne hp]; exact e)
  · have q2 := q.swap l.symm zd
    rw [R1.lkBack g] at q2
    exact q2
theorem Out.lock {w : Wd} {α : Type} {σ : L2.St} {H Z1 : Hp} {e1 : Ev} {A1 : Nat → List Addr} {d : Addr} {u u' : HO} {a : RV} {e : Ev} {Q : VK} (R1 : RS w.K w.c σ H Z1 e1 A1) (g : Z1 d = some u) (l : Lk u u') (h : Out w σ Z1 (.ok a e) fun r ev' H' Z' A' => ∀ x, RR w.K w.c σ H' Z' ev' A' x r → Q x H') :
    Out (w.blk (w.c.lk d u')) σ (chg Z1 d u') (.ok a e) fun r ev' H' Z' A' => ∀ x, RR w.K (w.c.lk d u') σ H' Z' ev' A' x r → H' d = some u' ∧ Q x (upd H' d u) := by
  intro H' Z' A' s R x rr
  obtain ⟨k1, k2, k3, k4⟩ := unlk R1 g l s R
  exact ⟨k1, h _ _ A' k2 k3 x (k4 x a rr)⟩
/-- a dict comprehension over a dict's keys -/
theorem dck_turns {w : Wd} {kt : Bool} {own tg : List Nat} {tup : Bool} {i : Nat} {cd : C} {k v : E} {σ : L2.St} {H Z : Hp} {ev : Ev} {A : Nat → List Addr} {Q : VK} (ho : ∀ i ∈ tg, i ∈ own) (R : RS w.K w.c σ H Z ev A)
    (h : Out w σ Z (evE w.cf (.dck kt own tg tup i cd k v) ev) fun r ev' H' Z' A' => ∀ x, RR w.K w.c σ H' Z' ev' A' x r → Q x H') :
    tDcc kt (iKeys (tVar i)) (gTg w.K tup tg) (anyC w cd) (anyE w k) (anyE w v) own σ H Q ∨ tLockE (tDcc kt (iKeys (tVar i)) (gTg w.K tup tg) (anyC w cd) (anyE w k) (anyE w v) own) σ H Q := by
  simp only [evE] at h
  cases hk : keysE ev i with
  | none => rw [hk] at h; exact h.elim
  | some p =>
    obtain ⟨ds, e1⟩ := p
    rw [hk] at h
    simp only at h
    obtain ⟨Z1, A1, d, s1, R1, hx, wk⟩ := keysE_ok R hk
    split at h
    · rename_i evs hw
      split at h
      · rename_i kvs e2 hl
        have h1 := Out.same h s1
        rcases wk with ⟨q, ks, g, wk⟩ | ⟨q, ks, g, wk⟩ | ⟨ks, g, wk⟩ | ⟨ks, g, wk⟩
        · exact .inl ⟨.ref d, hx, d, q, rfl, .inl ⟨ks, R1.sub _ _ g, dc_turns ho wk R1 hw hl h1⟩⟩
        · exact .inl ⟨.ref d, hx, d, q, rfl, .inr ⟨ks, R1.sub _ _ g, dc_turns ho wk R1 hw hl h1⟩⟩
        · refine .inr ⟨d, .dK ks, R1.sub _ _ g, trivial, fun q => ⟨.ref d, hx, d, q, rfl, .inl ⟨ks, upd_same, ?_⟩⟩⟩
          have l : Lk (.dK ks) (.frz q (.dK ks)) := .inl ⟨_, .inl rfl, .inr ⟨q, rfl⟩⟩
          exact dc_turns (w := w.blk (w.c.lk d (.frz q (.dK ks)))) ho (wk q) (R1.swap l g) hw hl (Out.lock (α := RV) R1 g l h1)
        · refine .inr ⟨d, .dT ks, R1.sub _ _ g, trivial, fun q => ⟨.ref d, hx, d, q, rfl, .inr ⟨ks, upd_same, ?_⟩⟩⟩
          have l : Lk (.dT ks) (.frz q (.dT ks)) := .inr ⟨_, .inl rfl, .inr ⟨q, rfl⟩⟩
          exact dc_turns (w := w.blk (w.c.lk d (.frz q (.dT ks)))) ho (wk q) (R1.swap l g) hw hl (Out.lock (α := RV) R1 g l h1)
      · exact h.elim
    · exact h.elim
theorem ownP_snd (N : List Str) (own : List Nat) : (ownP N own).map (·.2) = own := by
  unfold ownP
  rw [List.map_map]
  conv => rhs; rw [← List.map_id own]
  rfl
end Bide

set_option autoImplicit false
set_option linter.all false
set_option maxRecDepth 100000
set_option maxHeartbeats 4000000
/-! {x: (0, ())} -/
namespace Bide
open PySem L2
theorem Grow.then {Z H Z1 H1 Z2 H2 : Hp} (a : Grow Z H Z1 H1) (b : Grow Z1 H1 Z2 H2) : Grow Z H Z2 H2 where
  zz := a.zz.trans b.zz
  sub := b.sub
  zf := fun p o e => by
    rcases b.zf p o e with q | q | q
    · exact a.zf p o q
    · right; left
      cases h : H p with
      | none => rfl
      | some u => rw [a.hh p u h] at q; cases q
    · exact .inr (.inr q)
  nt := fun p ps e => a.nt p ps (b.nt p ps e)
  hh := a.hh.trans b.hh
theorem dlit_ok {w : Wd} {k : Nat} {N : List Str} {fb : Str → Bool} {X : Cx} {i : Nat} {x : Str} {y : Int} {c1 c2 c3 : Nat} {p1 p2 p3 p4 pos : Pos} (hX : XOk w k N fb X) (h1 : rdSlot N X.env.scope i x = true) :
    PE X (.Dict [some (.Name x p1)] [.Tuple [.Constant (.int y) c1 p2, .Tuple [] c2 p3] c3 p4] pos) (semE w (.dlit (.var i) (.tup (.cons (.int y) (.cons (.tup .nil) .nil))))) := by
  refine ⟨fun pins s σ H Q I h => (pe_disp (pps_cons (rd_slot hX.N h1) (pe_tup (pa_cons pe_int (pa_cons (pe_tup pa_nil) pa_nil))) pps_nil) rfl rfl (fun q => by cases q) (Nat.le_of_ble_eq_true rfl)).run pins s σ H Q I ?_⟩
  obtain ⟨ev, Z, A, R0, h⟩ := h
  have l0 : (0 : Nat) ≤ line ∧ (2 : Nat) ≤ line := ⟨by unfold line; omega, by unfold line; omega⟩
  simp only [evE, evEs, Bide.R.bind] at h
  cases hs : ev[i]? with
  | none => rw [hs] at h; exact h.elim
  | some sv =>
    rw [hs] at h
    cases sv with
    | no => exact h.elim
    | io ds => simp [Bide.R.bind,stl,esc,escs,rd,rds,keyOk,l0.1,l0.2,hs] at h; exact h.elim
    | ow o =>
      cases o with
      | l ds => simp [Bide.R.bind,stl,esc,escs,rd,rds,keyOk,l0.1,l0.2,hs] at h; exact h.elim
      | d t kvs => simp [Bide.R.bind,stl,esc,escs,rd,rds,keyOk,l0.1,l0.2,hs] at h; exact h.elim
      | ll xs => simp [Bide.R.bind,stl,esc,escs,rd,rds,keyOk,l0.1,l0.2] at h; exact h.elim
    | sh d =>
      obtain ⟨_, v, e1, e2⟩ := R0.sl i _ hs
      simp [Bide.R.bind,stl,esc,escs,rd,rds,l0.1,l0.2] at h
      cases hk : keyOk d with
      | false => rw [hk] at h; exact h.elim
      | true =>
        rw [hk] at h
        have g : Give w.K Z H (.f (.d false [(d, .tuple [.int y, .tuple []])])) Q := R0.give rfl rfl h
        obtain ⟨q, rfl, rfl⟩ := key_of_flat (.inl e2 : RdV w.K Z Z v d) hk
        intro p hp
        refine ⟨_, e1, ?_⟩
        refine ⟨by rw [sizeLine_eq]; simp, fun a ha => ?_⟩
        refine ⟨by rw [sizeLine_eq]; simp, fun b hb => ?_⟩
        have ap : a ≠ p := fun e => by rw [e, upd_same] at ha; cases ha
        rw [upd_ne ap] at ha
        have ba : b ≠ a := fun e => by rw [e, upd_same] at hb; cases hb
        rw [upd_ne ba] at hb
        have bp : b ≠ p := fun e => by rw [e, upd_same] at hb; cases hb
        rw [upd_ne bp] at hb
        have pa : p ≠ a := fun e => ap e.symm
        have pb : p ≠ b := fun e => bp e.symm
        refine ⟨by rw [upd_ne pb, upd_ne pa, upd_same], [(q, .ref b)], rfl, by simp, ?_⟩
        have hH : upd (upd (upd (upd H p (.dK [])) a (.tup [])) b (.tup [.int y, .ref a])) p (.dK (mergeK [] [(q, .ref b)])) = upd (upd (upd H a (.tup [])) b (.tup [.int y, .ref a])) p (.dK [(q, .ref b)]) := by
          funext z
          have hm : mergeK [] [(q, V.ref b)] = [(q, V.ref b)] := rfl
          rw [hm]
          by_cases h1 : z = p
          · rw [h1, upd_same, upd_same]
          · rw [upd_ne h1, upd_ne h1]
            by_cases h2 : z = b
            · rw [h2, upd_same, upd_same]
            · rw [upd_ne h2, upd_ne h2]
              by_cases h3 : z = a
              · rw [h3, upd_same, upd_same]
              · rw [upd_ne h3, upd_ne h3, upd_ne h1]
        rw [hH]
        have sub := R0.sub
        have G1 : Grow Z H (upd Z a (.tup [])) (upd H a (.tup [])) := Grow.new sub ha
        have hb1 : upd H a (.tup []) b = none := by rw [upd_ne ba]; exact hb
        have G2 := G1.then (Grow.new (o := .tup [.int y, .ref a]) G1.sub hb1)
        have hp2 : upd (upd H a (.tup [])) b (.tup [.int y, .ref a]) p = none := by rw [upd_ne pb, upd_ne pa]; exact hp
        have G3 := G2.then (Grow.own (o := .dK [(q, .ref b)]) G2.sub hp2)
        refine g _ _ _ G3 ⟨p, [p], rfl, ⟨rfl, [(q, .ref b)], upd_same, by rw [sizeLine_eq]; simp, .cons (.tup upd_same (by rw [sizeLine_eq]; simp) (.cons (.int y) (.cons (.tup (by rw [upd_ne (fun e => ba e.symm)]; exact upd_same) (by rw [sizeLine_eq]; simp) .nil) .nil))) .nil⟩, by simp, fun c hc => ?_⟩
        cases List.mem_singleton.mp hc
        exact ⟨by
          rw [upd_ne pb, upd_ne pa]
          exact zFree sub hp, hp⟩
end Bide

set_option autoImplicit false
set_option Elab.async false
set_option linter.all false
set_option maxRecDepth 100000
set_option maxHeartbeats 4000000
/-! x[::-1] of a list or a tuple. -/
namespace Bide
open PySem PySem.Spec PyProof.Rows L2 HT
section
variable {prog : Program} {w : World} {A : Around} {E : Value → Shared → Prop} {s : Shared}
theorem rev_applied {sl : Addr} {vl vu vs : Value} {n : Nat} {Q : Int × Int × Nat → Shared → Prop} (hs : s.heap.IsSliceOf sl vl vu vs) (pl : IsPart vl none) (pu : IsPart vu none) (ps : IsPart vs (some (-1)))
    (h : Q ((n : Int) - 1, -1, n) s) : wpAny (model prog w) A (Builtin.Slice.sliceApplied (.ref sl) (pure (n : Int))) Q E s := by
  obtain ⟨os, hos, hcs, hds⟩ := id hs
  unfold Builtin.Slice.sliceApplied Builtin.Slice.sliceFields
  refine wpAny_bind (wpAny_bind (wpAny_field hos hds (x := vl) rfl (wpAny_bind (wpAny_field hos hds (x := vu) rfl (wpAny_bind (wpAny_field hos hds (x := vs) rfl (wpAny_pure ?_)))))))
  refine wpAny_bind (slicePart_ ps ?_)
  show wpAny _ _ (if ((-1 : Int) == 0) = true then _ else _) _ _ s
  rw [if_neg (by decide)]
  refine wpAny_bind (slicePart_ pl (wpAny_bind (slicePart_ pu (wpAny_bind (wpAny_pure ?_)))))
  show wpAny _ _ (pure ((n : Int) - 1, (-1 : Int), Builtin.Slice.slicePlaces ((n : Int) - 1) (-1) (-1))) _ _ s
  have e : Builtin.Slice.slicePlaces ((n : Int) - 1) (-1) (-1) = n := by
    unfold Builtin.Slice.slicePlaces
    have h1 : ¬ ((-1 : Int) > 0) := by decide
    simp only [h1, if_false]
    by_cases q : (n : Int) - 1 > -1
    · rw [if_pos q]
      have : ((n : Int) - 1 - -1 - 1) / (- -1) = (n : Int) - 1 := by
        rw [show (- -1 : Int) = 1 by decide, Int.ediv_one]
        omega
      rw [this]
      omega
    · rw [if_neg q]
      omega
  rw [e]
  exact wpAny_pure h
theorem fm_congr {α β : Type} {f g : α → Option β} : ∀ (l : List α), (∀ a ∈ l, f a = g a) → l.filterMap f = l.filterMap g
  | [], _ => rfl
  | a :: l, h => by rw [List.filterMap_cons, List.filterMap_cons, h a (List.mem_cons_self ..), fm_congr l (fun b hb => h b (List.mem_cons_of_mem _ hb))]
theorem rev_pick (xs : Array Value) : ((List.range xs.size).filterMap fun (k : Nat) => xs[((xs.size : Int) - 1 + (k : Int) * (-1)).toNat]?).toArray = xs.toList.reverse.toArray := by
  have h := PySem.W.krv_all xs
  have h2 : ((List.range xs.size).map fun k => xs.size - 1 - k).filterMap (xs[·]?) = xs.toList.reverse := by rw [PySem.W.krv_range, List.filterMap_reverse, h]
  rw [List.filterMap_map] at h2
  rw [← h2]
  refine congrArg List.toArray (fm_congr _ fun k hk => ?_)
  rw [List.mem_range] at hk
  have : ((xs.size : Int) - 1 + (k : Int) * (-1)).toNat = xs.size - 1 - k := by omega
  rw [this]
  rfl
theorem getItem_tuple_rev {t sl : Addr} {items : Array Value} {vl vu vs : Value} {Q : Value → Shared → Prop} (ht : IsTup s.heap t items) (hs : s.heap.IsSliceOf sl vl vu vs) (pl : IsPart vl none) (pu : IsPart vu none) (ps : IsPart vs (some (-1)))
    (h : Q (.ref s.heap.objs.size) { s with heap := s.heap.push { cls := .type "tuple", data := .seq items.toList.reverse.toArray } })
    (hsz : items.size ≤ sizeLine) : wpAny (model prog w) A (getItem (.ref t) (.ref sl)) Q E s := by
  have htake : sizeOk (.seq items.toList.reverse.toArray) := by
    show items.toList.reverse.toArray.size ≤ sizeLine
    rw [List.size_toArray, List.length_reverse, Array.length_toList]
    exact hsz
  obtain ⟨os, hos, hcs, hds⟩ := id hs
  have hTs : s.TypeIs (.ref sl) "slice" := ⟨os, hos, hcs⟩
  unfold getItem
  try with_reducible refine wpAny_holding ?_
  first | refine wpAny_bind (wpAny_pure ?_) | skip
  refine wpAny_bind (wpAny_sequenceKey ht.typeIs (by decide) ?_)
  refine wpAny_bind (wpAny_callSpecial?_slot (name := Str.ofString "__getitem__") ht.typeIs PyProof.Rows.slot_tuple_getitem
    (wpAny_call_entry PyProof.Rows.slot_tuple_getitem ht.typeIs entry_tuple_getitem ?_ (args_tuple_getitem _ _)))
  show wpAny _ _ (Builtin.Tuple.tupleItemsOf (.ref t) >>= _) _ _ s
  refine wpAny_bind (tupleItemsOf_ ht ?_)
  refine wpAny_bind (wpAny_typeOf hTs ?_)
  rw [if_pos (by decide)]
  refine wpAny_bind (rev_applied hs pl pu ps ?_)
  have hno : ¬ ((((items.size : Int) - 1) == 0 && (-1 : Int) == 1 && items.size == items.size) = true) := by
    intro q
    rw [Bool.and_eq_true, Bool.and_eq_true] at q
    exact absurd q.1.2 (by decide)
  show wpAny _ _ (if (((items.size : Int) - 1) == 0 && (-1 : Int) == 1 && items.size == items.size) = true then _ else _) _ _ s
  rw [if_neg hno, rev_pick]
  first
    | exact wpAny_bind (m := Builtin.Tuple.tupleExact _) (wpAny_newObj_type (wpAny_pure ⟨_, rfl, wpAny_pure h⟩) htake)
    | exact wpAny_bind (m := Builtin.Tuple.tupleExact _) (wpAny_newObj_type (wpAny_bind (wpAny_pure (wpAny_pure ⟨_, rfl, wpAny_pure h⟩))) htake)
    | exact wpAny_bind (wpAny_bind (m := Builtin.Tuple.tupleExact _) (wpAny_newObj_type (wpAny_pure (wpAny_pure ⟨_, rfl, wpAny_pure h⟩)) htake))
    | exact wpAny_bind (wpAny_bind (m := Builtin.Tuple.tupleExact _) (wpAny_newObj_type (wpAny_pure ⟨_, rfl, wpAny_pure h⟩) htake))
end
section
variable {X : Cx}
def tRev (K : PySem.W.Frag) (te : TE) : TE := fun σ H Q => te σ H fun x H1 => ∃ a xs, x = .ref a ∧ ((SqL K H1 a xs ∧ ∀ p, H1 p = none → Q (.ref p) (upd H1 p (.lst xs.reverse))) ∨ (SqT K H1 a xs ∧ ∀ p, H1 p = none → Q (.ref p) (upd H1 p (.tup xs.reverse))))
theorem pe_rev {e : Expr} {te : TE} {k : Nat} {p1 p2 p3 pos : Pos} (he : PE X e te) : PE X (.Subscript e (.Slice none none (some (.UnaryOp .USub (.Constant (.int 1) k p1) p2)) p3) pos) (tRev X.K te) := by
  refine ⟨fun pins s σ H Q I h => ?_⟩
  refine Subscript_ (thn (he.run pins s σ H _ I h) fun v s1 ⟨x, H1, I1, r1, q1⟩ => ?_)
  obtain ⟨a, xs, ex, hx⟩ := q1
  subst ex
  cases r1
  have hst : PO X (some (.UnaryOp .USub (.Constant (.int 1) k p1) p2)) (tPart (tUn (rU fun i => .int (-i)) (tC (.int 1)))) := po_some (pe_un un_neg pe_int)
  refine wpAny_Slice (thn (po_none.run pins s1 σ H1 (fun o H2 => o = none ∧ H2 = H1) I1 ⟨rfl, rfl⟩) fun vl s2 ⟨l, H2, I2, pl, el, e2⟩ => ?_)
  subst el e2
  refine thn (po_none.run pins s2 σ H2 (fun o H3 => o = none ∧ H3 = H2) I2 ⟨rfl, rfl⟩) fun vu s3 ⟨u, H3, I3, pu, eu, e3⟩ => ?_
  subst eu e3
  refine thn (hst.run pins s3 σ H3 (fun o H4 => o = some (-1) ∧ H4 = H3) I3 ⟨1, rfl, -1, rfl, rfl, rfl⟩) fun vs s4 ⟨o, H4, I4, ps, eo, e4⟩ => ?_
  subst eo e4
  have I5 : Inv X pins σ H4 { s4 with heap := s4.heap.push { cls := .type "slice", data := .fields #[vl, vu, vs] } } := I4.kept (t' := s4.toks) fun b ob q => Heap.get?_push_of_some _ q
  show wpAny (model X.prog X.w) X.A (subscriptTail e (.Slice none none (some (.UnaryOp .USub (.Constant (.int 1) k p1) p2)) p3) (.ref a) (.ref s4.heap.objs.size)) (EP X pins σ Q) X.xe { s4 with heap := s4.heap.push { cls := .type "slice", data := .fields #[vl, vu, vs] } }
  rcases hx with ⟨hx, q⟩ | ⟨hx, q⟩
  · obtain ⟨its, r, ht, hz⟩ := I5.list hx
    have hlen := r.length
    refine tail_any (ops := [.ref a, .ref s4.heap.objs.size]) ht.isList.typeIs (PySem.slot_list_getitem.lookup) ?_ (by with_unfolding_all rfl)
    refine wpAny_getItem_list_slice ht.isList (Heap.IsSliceOf.new _ vl vu vs) pl pu ps (by decide) ?_ (by rw [List.size_toArray]; omega)
    rw [PySem.W.krv_pick]
    refine ⟨.ref _, _, I5.laid (t' := s4.toks) (o := .lst xs.reverse) (fun b ob q => Heap.get?_push_of_some _ q) (Nat.le_refl _) ?_, rfl, q _ (I5.hok.fresh (Nat.le_refl _))⟩
    exact ⟨by rw [List.length_reverse]; exact hz, _, 0, r.reverse, Heap.get?_push_size _ rfl⟩
  · obtain ⟨its, r, ht, hz⟩ := I5.tuple hx
    have hlen := r.length
    refine tail_any (ops := [.ref a, .ref s4.heap.objs.size]) ht.typeIs (PyProof.Rows.slot_tuple_getitem.lookup) ?_ (by with_unfolding_all rfl)
    refine getItem_tuple_rev ht (Heap.IsSliceOf.new _ vl vu vs) pl pu ps ?_ (by rw [List.size_toArray]; omega)
    refine ⟨.ref _, _, I5.laid (t' := s4.toks) (o := .tup xs.reverse) (fun b ob q => Heap.get?_push_of_some _ q) (Nat.le_refl _) ?_, rfl, q _ (I5.hok.fresh (Nat.le_refl _))⟩
    exact ⟨by rw [List.length_reverse]; exact hz, _, r.reverse, IsTup.new _ _⟩
end
end Bide

set_option autoImplicit false
set_option Elab.async false
set_option maxRecDepth 100000
set_option linter.all false
set_option maxHeartbeats 1000000
/-! zip of a list or a tuple with a list or a tuple. -/
namespace Bide
open PySem L2 PyProof.Rows
/-- a list (true) or a tuple (false) of the abstract heap -/
def SqK (k : Bool) (K : PySem.W.Frag) (H : Hp) (a : Addr) (xs : List V) : Prop := match k with
  | true => SqL K H a xs
  | false => SqT K H a xs
def SqH (k : Bool) (h : Heap) (a : Addr) (its : Array Value) : Prop := match k with
  | true => h.IsList a its
  | false => h.IsTuple a its
def ItH (k : Bool) (h : Heap) (it a : Addr) (i : Nat) : Prop := match k with
  | true => h.IsListIter it a i
  | false => h.IsTupleIter it a i
def itO (k : Bool) (a : Addr) : Obj := match k with
  | true => { cls := .type "list_iterator", data := .fields #[.ref a, .int 0 0] }
  | false => { cls := .type "tuple_iterator", data := .fields #[.ref a, .int 0 0] }
theorem itH_at {k : Bool} {h h' : Heap} {it a : Addr} {i : Nat} (q : ItH k h it a i) (e : ∀ o, h.get? it = some o → h'.get? it = some o) : ItH k h' it a i := by
  cases k
  · exact Heap.IsTupleIter.at q e
  · exact Heap.IsListIter.at q e
theorem itH_obj {k : Bool} {h : Heap} {it a : Addr} {i : Nat} (q : ItH k h it a i) : ∃ o, h.get? it = some o ∧ ∀ v, o.data ≠ .cell v := by
  cases k
  · obtain ⟨o, e, _, d⟩ := q
    exact ⟨o, e, fun v q => by rw [d] at q; cases q⟩
  · obtain ⟨o, e, _, d⟩ := q
    exact ⟨o, e, fun v q => by rw [d] at q; cases q⟩
theorem itH_new {k : Bool} {h : Heap} {it a : Addr} (e : h.get? it = some (itO k a)) : ItH k h it a 0 := by
  cases k
  · exact ⟨_, e, rfl, rfl⟩
  · exact ⟨_, e, rfl, rfl⟩
theorem begK (k : Bool) (a : Addr) (its : Array Value) : Begins (.ref a) (itO k a) (fun h => SqH k h a its) := by
  cases k
  · exact begins_tuple a its
  · exact begins_list a its
theorem drawsK {prog : Program} {w : World} {A : Around} (k : Bool) (hh : A.handled = none) (it a : Addr) (hne : a ≠ it) (its : Array Value) :
    Draws prog w A it [it, a] its.size (fun i v => its[i]? = some v) (fun i h => ItH k h it a i ∧ SqH k h a its) := by
  cases k
  · exact Draws.tuple hh it a hne its
  · exact Draws.list hh it a hne its
section
variable {X : Cx} {pins : List (Addr × Obj)} {σ : L2.St} {H : Hp} {s : Shared}
theorem inv_sq {k : Bool} {a : Addr} {xs : List V} (I : Inv X pins σ H s) (h : SqK k X.K H a xs) : ∃ its : List Value, Vals xs its ∧ SqH k s.heap a its.toArray ∧ a < s.heap.objs.size := by
  cases k
  · obtain ⟨its, r, p, _⟩ := I.tuple h
    refine ⟨its, r, p, ?_⟩
    obtain ⟨o, e, _⟩ := id p
    exact Heap.lt_size e
  · obtain ⟨its, r, p, _⟩ := I.list h
    exact ⟨its, r, p.isList, p.lt⟩
theorem inv_sq_inj {k : Bool} {a : Addr} {xs ys : List V} (I : Inv X pins σ H s) (h : SqK k X.K H a xs) (h' : SqK k X.K H a ys) : xs = ys := by
  cases k
  · exact I.tuple_inj h h'
  · exact I.list_inj h h'
end
/-- the two as they stand at each turn, the items in new pairs -/
def ItzM (K : PySem.W.Frag) (k1 k2 : Bool) (a b : Addr) (n1 n2 : Nat) : L2.It where
  go := fun i H => ∃ (xs ys : List V) (x y : V), SqK k1 K H a xs ∧ SqK k2 K H b ys ∧ xs.length = n1 ∧ ys.length = n2 ∧ xs[i]? = some x ∧ ys[i]? = some y
  yld := fun i H v H' => ∃ t x y, v = .ref t ∧ H t = none ∧ H' = upd H t (.tup [x, y]) ∧ (∀ xs, SqK k1 K H a xs → xs[i]? = some x) ∧ ∀ ys, SqK k2 K H b ys → ys[i]? = some y
  stop := fun i H => ∃ xs ys : List V, SqK k1 K H a xs ∧ SqK k2 K H b ys ∧ xs.length = n1 ∧ ys.length = n2 ∧ (n1 ≤ i ∨ n2 ≤ i)
theorem turn_zipM {P : Program} {w : World} {K : PySem.W.Frag} {elts : List Expr} {kk : Nat} {tpos : Pos} {k1 k2 : Bool} {a b z TI TO i1 i2 : Addr} {n1 n2 : Nat} (S : ZipSep2 z TI TO i1 i2 [i1, a] [i2, b]) (ha : a ≠ i1) (hb : b ≠ i2) :
    Turn P w K (.Tuple elts kk tpos) (ItzM K k1 k2 a b n1 n2) [z, TI, TO, i1, i2] z (fun i h => IsZip h z TI TO .none ∧ IsTupOf2 h TI (.ref i1) (.ref i2) ∧ (∃ x y, IsTupOf2 h TO x y) ∧ ItH k1 h i1 a i ∧ ItH k2 h i2 b i ∧ i ≤ n1 ∧ i ≤ n2) where
  mem := List.mem_cons_self
  obj := by
    rintro i h ⟨hz, hTI, ⟨x, y, hTO⟩, h1, h2, _, _⟩ c hc
    have e' : c = z ∨ c = TI ∨ c = TO ∨ c = i1 ∨ c = i2 := by simpa using hc
    rcases e' with rfl | rfl | rfl | rfl | rfl
    · exact ⟨_, hz, fun v q => nomatch q⟩
    · exact ⟨_, hTI, fun v q => nomatch q⟩
    · exact ⟨_, hTO, fun v q => nomatch q⟩
    · exact itH_obj h1
    · exact itH_obj h2
  keep := by
    rintro i h h' ⟨hz, hTI, ⟨x, y, hTO⟩, h1, h2, l1, l2⟩ k
    exact ⟨k z (by simp) _ hz, k TI (by simp) _ hTI, ⟨x, y, k TO (by simp) _ hTO⟩, itH_at h1 fun o q => k i1 (by simp) o q, itH_at h2 fun o q => k i2 (by simp) o q, l1, l2⟩
  item := by
    intro X hP hw hK hc i pins s σ H E I hf st hg
    subst hP hw hK
    obtain ⟨hz, hTI, ⟨x0, y0, hTO⟩, h1, h2, l1, l2⟩ := st
    obtain ⟨xs, ys, x, y, hqx, hqy, hn1, hn2, hx, hy⟩ := hg
    obtain ⟨its, rv, p, _⟩ := inv_sq I hqx
    obtain ⟨its2, rv2, p2, _⟩ := inv_sq I hqy
    obtain ⟨u, hu, ru⟩ := rv.get hx
    obtain ⟨u2, hu2, ru2⟩ := rv2.get hy
    have hzl : z < s.heap.objs.size := Heap.lt_size hz
    have lt1 : i < its.toArray.size := by
      have := (List.getElem?_eq_some_iff.mp hu).1
      simpa using this
    have lt2 : i < its2.toArray.size := by
      have := (List.getElem?_eq_some_iff.mp hu2).1
      simpa using this
    have D1 := drawsK (prog := X.prog) (w := X.w) (A := X.A.in1) k1 (I.ok.hd hc) i1 a ha its.toArray
    have D2 := drawsK (prog := X.prog) (w := X.w) (A := X.A.in1) k2 (I.ok.hd hc) i2 b hb its2.toArray
    refine wpAny_pyNext_zipD2_item S D1 D2 hz hTI hTO ⟨h1, p⟩ ⟨h2, p2⟩ lt1 lt2 fun u' u2' h' tk hu' hu2' z' TO' st1 st2 hT hsz hk => ?_
    have ex : u' = u := by
      have : its.toArray[i]? = some u := by simpa using hu
      rw [this] at hu'
      exact (Option.some.inj hu').symm
    have ex2 : u2' = u2 := by
      have : its2.toArray[i]? = some u2 := by simpa using hu2
      rw [this] at hu2'
      exact (Option.some.inj hu2').symm
    subst ex ex2
    refine ⟨_, rfl, wpAny_letOwnedTupleGo_zip (s := { s with heap := h', toks := tk }) z' fun h'' z'' sb => ?_⟩
    have hT2 : h''.get? s.heap.objs.size = some { cls := .type "tuple", data := .seq #[u', u2'] } := (sb.2 _ (Nat.ne_of_gt hzl)).trans hT
    have new : ObjOk X.prog X.w (upd H s.heap.objs.size (.tup [x, y])) h'' s.heap.objs.size (.tup [x, y]) :=
      ⟨by show 2 ≤ sizeLine; decide, [u', u2'], .cons ru (.cons ru2 .nil), ⟨_, hT2, rfl, _, rfl⟩⟩
    have I1 : Inv X pins σ (upd H s.heap.objs.size (.tup [x, y])) { s with heap := h'', toks := tk } :=
      I.turnedNew (ch := [z, TI, TO, i1, i2]) (fun c o hb q => (sb.2 c (fun q' => hb (by simp [q']))).trans (hk c o (fun q' => hb (by simp [q'])) (fun q' => hb (by simp [q'])) (fun q' => hb (by simp [q'])) (fun q' => hb (by simp [q'])) q)) hf (Nat.le_refl _) new
    refine ⟨.ref s.heap.objs.size, _, I1, rfl, ⟨_, x, y, rfl, I.hok.fresh (Nat.le_refl _), rfl, fun l hl => by rw [inv_sq_inj I hl hqx]; exact hx, fun l hl => by rw [inv_sq_inj I hl hqy]; exact hy⟩, ⟨z'', ?_, ⟨u', u2', ?_⟩, ?_, ?_, ?_, ?_⟩, fun c hcm => ?_⟩
    · exact (sb.2 _ S.TIz).trans (hk _ _ S.TIz S.TITO S.TIi1 S.TIi2 hTI)
    · exact (sb.2 _ S.TOz).trans TO'
    · exact itH_at st1.1 fun o q => (sb.2 _ (Ne.symm S.zi1)).trans q
    · exact itH_at st2.1 fun o q => (sb.2 _ (Ne.symm S.zi2)).trans q
    · rw [← hn1]; exact (List.getElem?_eq_some_iff.mp hx).1
    · rw [← hn2]; exact (List.getElem?_eq_some_iff.mp hy).1
    · have hlt : c < s.heap.objs.size := by
        have e' : c = z ∨ c = TI ∨ c = TO ∨ c = i1 ∨ c = i2 := by simpa using hcm
        rcases e' with rfl | rfl | rfl | rfl | rfl
        · exact hzl
        · exact Heap.lt_size hTI
        · exact Heap.lt_size hTO
        · obtain ⟨o, q, _⟩ := itH_obj h1; exact Heap.lt_size q
        · obtain ⟨o, q, _⟩ := itH_obj h2; exact Heap.lt_size q
      rw [upd_ne (Nat.ne_of_lt hlt)]
      exact (hf c hcm).1
  done := by
    intro X hP hw hK hc i pins s σ H E I hf st hg
    subst hP hw hK
    obtain ⟨hz, hTI, ⟨x0, y0, hTO⟩, h1, h2, l1, l2⟩ := st
    obtain ⟨xs, ys, hqx, hqy, hn1, hn2, hend⟩ := hg
    obtain ⟨its, rv, p, _⟩ := inv_sq I hqx
    obtain ⟨its2, rv2, p2, _⟩ := inv_sq I hqy
    have m1 : its.toArray.size = n1 := by rw [List.size_toArray, ← rv.length]; exact hn1
    have m2 : its2.toArray.size = n2 := by rw [List.size_toArray, ← rv2.length]; exact hn2
    have D1 := drawsK (prog := X.prog) (w := X.w) (A := X.A.in1) k1 (I.ok.hd hc) i1 a ha its.toArray
    have D2 := drawsK (prog := X.prog) (w := X.w) (A := X.A.in1) k2 (I.ok.hd hc) i2 b hb its2.toArray
    exact wpAny_pyNext_zipD2_end S D1 D2 hz hTI hTO ⟨h1, p⟩ ⟨h2, p2⟩ (by omega) (by omega) (by omega) fun h' tk hk => ⟨rfl, I.turnedL (ch := [z, TI, TO, i1, i2]) (fun c o hb q =>
      hk c o (fun q' => hb (by simp [q'])) (fun q' => hb (by simp [q'])) (fun q' => hb (by simp [q'])) (fun q' => hb (by simp [q'])) q) hf⟩
  self := fun A i s Q E st h => wpAny_pyIter_zip st.1 h
/-- zip of two, lists or tuples -/
def iZipM (K : PySem.W.Frag) (ta : TA) : TI := fun σ H R => ta σ H fun vs H1 => ∃ k1 k2 a b xs ys, vs = [.ref a, .ref b] ∧ SqK k1 K H1 a xs ∧ SqK k2 K H1 b ys ∧ R (ItzM K k1 k2 a b xs.length ys.length) H1
theorem pi_zipM {X : Cx} {e e2 : Expr} {ta : TA} {p pos tpos : Pos} {elts : List Expr} {kk : Nat} (hg : Gl X "zip") (hm : X.mg "zip" = none) (ha : PA X [e, e2] ta)
    (hs : starEach [e, e2] X.env = (false, eval e X.env) :: starEach [e2] X.env) (hpl : (backTo pos (starEach [e2] X.env)).any (·.1) = false) :
    PI X (.Tuple elts kk tpos) (.Call (.Name "zip" p) [e, e2] [] pos) (iZipM X.K ta) := by
  constructor
  intro pins s σ H R I h
  refine Call_ (ld_blt I hg hm PyProof.Rows.boot_zip (PyProof.Rows.callWith_type1 (thn (ha.run pos pins s σ H _ I h) fun us s1 ⟨vs, H1, I1, r1, k1, k2, a, b, xs, ys, ex, hqx, hqy, q⟩ => ?_) hs hpl))
  subst ex
  cases r1 with
  | cons r rr =>
    cases rr with
    | cons r' rr =>
      cases rr
      cases r
      cases r'
      obtain ⟨its, rv, p1, lt1⟩ := inv_sq I1 hqx
      obtain ⟨its2, rv2, p2, lt2⟩ := inv_sq I1 hqy
      have old : ∀ c ∈ [s1.heap.objs.size + 4, s1.heap.objs.size + 2, s1.heap.objs.size + 3, s1.heap.objs.size, s1.heap.objs.size + 1], FpOk X pins H1 c := fun c hcm => by
        have hle : s1.heap.objs.size ≤ c := by
          have e' : c = s1.heap.objs.size + 4 ∨ c = s1.heap.objs.size + 2 ∨ c = s1.heap.objs.size + 3 ∨ c = s1.heap.objs.size ∨ c = s1.heap.objs.size + 1 := by simpa using hcm
          have hk : ∀ m : Nat, s1.heap.objs.size ≤ s1.heap.objs.size + m := fun m => Nat.le_add_right _ _
          rcases e' with e | e | e | e | e
          · rw [e]; exact hk 4
          · rw [e]; exact hk 2
          · rw [e]; exact hk 3
          · rw [e]; exact Nat.le_refl _
          · rw [e]; exact hk 1
        exact I1.fpOk hle (I1.hok.fresh hle)
      have S := zip_sep2 (N := s1.heap.objs.size) (fp1 := [a]) (fp2 := [b]) (fun c hc => by cases List.mem_singleton.mp hc; exact lt1) (fun c hc => by cases List.mem_singleton.mp hc; exact lt2)
      refine zip_begins2 (begK k1 a its.toArray) (begK k2 b its2.toArray) p1 p2 fun h' hz hTI hTO g1 g2 hsz hk => wpAny_pyIter_zip hz ?_
      exact ⟨_, _, _, _, H1, rfl, I1.kept (t' := s1.toks) hk, turn_zipM S (Nat.ne_of_lt lt1) (Nat.ne_of_lt (Nat.lt_succ_of_lt lt2)), ⟨hz, hTI, ⟨_, _, hTO⟩, itH_new g1, itH_new g2, Nat.zero_le _, Nat.zero_le _⟩, old, q⟩
section
variable {K : PySem.W.Frag} {Z0 : Hp} {a b : Addr} {xs ys : List V} {ds es : List D}
theorem walk_zipM {k1 k2 : Bool} {n : Nat} (hn : n = min xs.length ys.length) : Walk (ItzM K k1 k2 a b xs.length ys.length) n (fun H => SqK k1 K H a xs ∧ SqK k2 K H b ys) (YPair (fun i => xs[i]?) (fun i => ys[i]?)) := by
  subst hn
  refine ⟨fun i H hi q => ?_, fun H q => ⟨xs, ys, q.1, q.2, rfl, rfl, by omega⟩, fun i H v H' hi q y => ?_⟩
  · exact ⟨xs, ys, xs[i]'(by omega), ys[i]'(by omega), q.1, q.2, rfl, rfl, by simp, by simp⟩
  · obtain ⟨t, x, z, h1, h2, h3, h4, h5⟩ := y
    exact ⟨t, x, z, h1, h2, h3, h4 xs q.1, h5 ys q.2⟩
/-- a list or a tuple of the ghost heap -/
def obK (k : Bool) (xs : List V) : HO := match k with
  | true => .lst xs
  | false => .tup xs
theorem sqK_of {k : Bool} {H : Hp} (h : H a = some (obK k xs)) : SqK k K H a xs := by
  cases k
  · exact .inl (.inl h)
  · exact .inl (.inl h)
theorem walkOk_zipM {k1 k2 : Bool} (l : xs.length ≤ sizeLine) (h : Z0 a = some (obK k1 xs)) (h' : Z0 b = some (obK k2 ys)) (r : Rps K Z0 xs ds) (r' : Rps K Z0 ys es) : WalkOk K (ItzM K k1 k2 a b xs.length ys.length) Z0 (zipD ds es) := by
  refine ⟨by rw [zipD_length, ← r.length]; exact Nat.le_trans (Nat.min_le_left _ _) l, fun H => SqK k1 K H a xs ∧ SqK k2 K H b ys, _, by rw [zipD_length, ← r.length, ← r'.length]; exact walk_zipM rfl, fun Z H s1 s2 => ⟨sqK_of (s2 _ _ (s1 _ _ h)), sqK_of (s2 _ _ (s1 _ _ h'))⟩, fun i H x H' Z _ y s1 s2 => ?_⟩
  obtain ⟨t, u, v, rfl, ht, rfl, hu, hv⟩ := y
  obtain ⟨d, hd, rd⟩ := r.get hu
  obtain ⟨e, he, re⟩ := r'.get hv
  obtain ⟨g, q⟩ := pair_grow s2 ht (rd.mono s1) (re.mono s1)
  exact ⟨_, _, zipD_get hd he, g, q⟩
end
end Bide

set_option autoImplicit false
set_option Elab.async false
set_option maxRecDepth 100000
set_option linter.all false
set_option maxHeartbeats 8000000
/-! The soundness of expressions. -/
namespace Bide
open PySem L2
theorem mIt_noStar {N : List Str} {ren : String → String} {sc : Scope} {it : It} {tg py : Expr} (h : mIt N ren it sc tg py = true) : noStar py = true := by
  cases it with
  | seq e =>
    have h' : mE N ren e sc py = true := by simpa [mIt] using h
    exact mE_noStar h'
  | rng a => cases py <;> first | rfl | (exfalso; revert h; simp [mIt])
  | rng2 a b => cases py <;> first | rfl | (exfalso; revert h; simp [mIt])
  | enum a => cases py <;> first | rfl | (exfalso; revert h; cases tg <;> simp [mIt])
  | zip a b => cases py <;> first | rfl | (exfalso; revert h; cases tg <;> simp [mIt])
theorem kisE {K : PySem.W.Frag} {Z : Hp} {ks : List (Key × V)} {kvs : List (D × D)} (r : RpK K Z ks kvs) : ks.isEmpty = kvs.isEmpty := by
  cases r <;> rfl
/-- a value's truth, a dict's that is walked, too -/
def TruW (K : PySem.W.Frag) (x : V) (H : Hp) (k : Bool) : Prop := TruV K x H k ∨ ∃ p kvs, x = .ref p ∧ Rd H p (.dK kvs) ∧ k = !kvs.isEmpty
theorem pt_truW {X : Cx} {a : Expr} {ta : TE} (ha : PE X a ta) (he : ∀ whole, isTrue a X.env whole = (do let v ← whole; standAt a.pos; holding [v] (truthy v))) :
    PT X a (fun σ H Q => ta σ H fun x H' => ∃ k, TruW X.K x H' k ∧ Q k H') := by
  refine ⟨fun pins s σ H Q I h => ?_⟩
  refine PyProof.Rows.isTrue_plain (thn (ha.run pins s σ H _ I h) fun v s1 ⟨x, H1, I1, r1, k, tk, q1⟩ => ?_) (he _)
  rcases tk with tk | ⟨p, kvs, rfl, hp, rfl⟩
  · exact tru_ok pins s1 σ H1 x v Q I1 r1 ⟨k, tk, q1⟩
  · cases r1
    exact d_truth I1 hp fun s2 I2 => ⟨H1, I2, q1⟩
theorem truW_of {K : PySem.W.Frag} {Z H : Hp} {x : V} {d : D} {k : Bool} (s : Same Z H) (h : RdV K Z H x d) (e : truT d = some k) : TruW K x H k := by
  unfold truT at e
  split at e
  · obtain ⟨a, ks, rfl, h1, _, h3⟩ := h.dict s
    cases e
    exact .inr ⟨a, ks, rfl, h1, by rw [kisE h3]⟩
  · exact .inl (truth_of s h e)
theorem val_plain {e : E} {w : Wd} {k : Nat} {N : List Str} {fb : Str → Bool} {X : Cx} {py : Expr} (hX : XOk w k N fb X) (h1 : PE X py (semE w e)) (hpl : plainPy py = true) : PT X py (semT w (.val e)) := by
  refine ⟨fun pins s σ H Q I h => (pt_truW h1 (plain_of hpl)).run pins s σ H Q I ?_⟩
  obtain ⟨ev, Z, A, R, h⟩ := h
  simp only [evT] at h
  refine semE_mono (sub1 R h) fun x H1 ⟨r, e1, Z1, A1, s1, R1, q1, h1⟩ => ?_
  split at h1
  · rename_i d hd
    rw [hX.K]
    cases ht : truT d with
    | none => rw [ht] at h1; exact h1.elim
    | some b =>
      rw [ht] at h1
      exact ⟨b, truW_of R1.sub (R1.rdv q1 hd) ht, h1 H1 Z1 A1 (Same.refl _) R1⟩
  · exact h1.elim
theorem nsup_base {o : Expr} {nm : Str} {env : Env} {wh : Sem Value} (h : notSup o = true) : attributeBase o nm env wh = wh := by
  cases o <;> first | rfl | (cases h; done)
theorem ixD_ok {ds : List D} {d : D} {j : Nat} (h : ixD ds d = some j) : ∃ z, SeqAt.shaped (.list ds) = true ∧ SeqAt.shaped d = true ∧ ds[j]? = some z ∧ PyData.eqv z d = true ∧ ∀ (m : Nat) (z' : D), m < j → ds[m]? = some z' → PyData.eqv z' d = false := by
  unfold ixD at h
  split at h
  · rename_i hc
    obtain ⟨h1, h2, h3⟩ := List.findIdx?_eq_some_iff_getElem.mp h
    refine ⟨ds[j], hc.1, hc.2, List.getElem?_eq_getElem h1, h2, fun m z' hm hz => ?_⟩
    have hml : m < ds.length := by omega
    rw [List.getElem?_eq_getElem hml] at hz
    cases hz
    simpa using h3 m hm
  · cases h
theorem rdv_dp {K : PySem.W.Frag} {Z H : Hp} {x : V} {d : D} (s : Same Z H) (h : RdV K Z H x d) (c : d.canLay0 = true) : Dp K H x d := by
  cases d with
  | none => cases h.none; exact .non
  | bool b => cases h.bool; exact .bl _
  | int i => cases h.int; exact .int _
  | str x => cases h.str; exact .str _
  | list ds =>
    obtain ⟨a, xs, rfl, g1, g2, g3⟩ := h.list s
    exact .lst (.inl (.inl g1)) (g3.dp s (by simpa [PyData.canLay0] using c))
  | tuple ds =>
    obtain ⟨a, xs, rfl, g1, g2, g3⟩ := h.tuple s
    exact .tup (.inl (.inl g1)) (g3.dp s (by simpa [PyData.canLay0] using c))
  | dict kvs => simp [PyData.canLay0] at c
theorem rdv_isD {K : PySem.W.Frag} {Z H : Hp} {x : V} {t : Bool} {kvs : List (D × D)} (s : Same Z H) (h : RdV K Z H x (.dict ((.bool t, .none) :: kvs))) : ∃ a, x = .ref a ∧ IsD H a := by
  cases t with
  | false =>
    obtain ⟨a, ks, rfl, h1, _⟩ := h.dict s
    exact ⟨a, rfl, .inl ⟨ks, h1⟩⟩
  | true =>
    obtain ⟨a, ks, rfl, h1, _⟩ := h.dictT s
    exact ⟨a, rfl, .inr ⟨ks, h1⟩⟩
theorem items_rps {K : PySem.W.Frag} {Z H' : Hp} : ∀ {ks : List (Key × V)} {kvs : List (D × D)}, RpK K Z ks kvs → ∀ {ts : List Addr}, Paired (fun (t : Addr) (q : Key × V) => H' t = some (.tup [kV q.1, q.2])) ts ks → (∀ t ∈ ts, Z t = H' t) → Rps K Z (ts.map V.ref) (kvs.map fun kv => .tuple [kv.1, kv.2])
  | _, _, .nil, _, p, _ => by
    cases p
    exact .nil
  | _, _, .cons (k := k) rp rr, _, p, hz => by
    cases p with
    | cons h r =>
      refine .cons (.tup (xs := [kV k, _]) (by rw [hz _ (by simp)]; exact h) (by rw [sizeLine_eq]; simp) (.cons ?_ (.cons rp .nil))) (items_rps rr r (fun t' h' => hz t' (by simp [h'])))
      cases k with
      | inl i => exact .int i
      | inr x => exact .str x
theorem paired_tup {H' : Hp} : ∀ {ts : List Addr} {ks : List (Key × V)}, Paired (fun (t : Addr) (q : Key × V) => H' t = some (.tup [kV q.1, q.2])) ts ks → ∀ {b : Addr}, b ∈ ts → ∀ ps, H' b ≠ some (.tbl ps)
  | _, _, .nil, _, hb, _ => by cases hb
  | _, _, .cons h r, b, hb, ps => by
    rcases List.mem_cons.mp hb with rfl | hb
    · rw [h]; intro e; cases e
    · exact paired_tup r hb ps
theorem items_give {w : Wd} {σ : L2.St} {H Z H' : Hp} {ev : Ev} {A : Nat → List Addr} (R : RS w.K w.c σ H Z ev A) {Q : VK} {K : PySem.W.Frag} {c : En} (hK : w.K = K) (hc : w.c = c) {ks : List (Key × V)} {kvs : List (D × D)} {p : Addr} {ts : List Addr}
    (h : Out w σ Z (.ok (.f (.l (kvs.map fun kv => .tuple [kv.1, kv.2]))) ev) fun r ev' H' Z' A' => ∀ x, RR w.K w.c σ H' Z' ev' A' x r → Q x H') (hl : ks.length ≤ sizeLine) (hr : RpK w.K Z ks kvs) (k1 : ∀ b o, H b = some o → H' b = some o)
    (hp : H p = none) (ht : ∀ t ∈ ts, H t = none) (hpt : p ∉ ts) (hlp : H' p = some (.lst (ts.map V.ref))) (hts : Paired (fun (t : Addr) (q : Key × V) => H' t = some (.tup [kV q.1, q.2])) ts ks) : Q (.ref p) H' := by
  have zt : ∀ t ∈ ts, Z t = none := fun t h => (R.notin (ht t h)).1
  have s := addZ_same (H := H') zt
  have R' : RS w.K w.c σ H' (addZ Z H' ts) ev A := by
    refine R.ext s (fun b u e => ?_) (fun b u e => ?_) (fun b ps e => ?_) k1
    · by_cases hb : b ∈ ts
      · rw [addZ_in hb] at e; exact e
      · rw [addZ_out hb] at e; exact k1 b u (R.sub b u e)
    · by_cases hb : b ∈ ts
      · exact .inr (.inl (ht b hb))
      · rw [addZ_out hb] at e; exact .inl e
    · by_cases hb : b ∈ ts
      · rw [addZ_in hb] at e; exact absurd e (paired_tup hts hb ps)
      · rw [addZ_out hb] at e; exact e
  have hlen : (ts.map V.ref).length ≤ sizeLine := by rw [List.length_map, Paired.length hts]; exact hl
  refine h H' (addZ Z H' ts) A s R' (.ref p) ⟨p, [p], rfl, ⟨rfl, _, hlp, hlen, items_rps (hr.mono s) hts (fun t h => addZ_in h)⟩, by simp, fun b hb => ?_⟩
  cases List.mem_singleton.mp hb
  obtain ⟨q1, q2, q3, q4⟩ := R.notin hp
  exact ⟨by rw [addZ_out hpt]; exact q1, q2, q3, q4⟩
theorem lco_turns {w : Wd} {σ : L2.St} {H Z : Hp} {ev evs : Ev} {A : Nat → List Addr} {own tg : List Nat} {tup : Bool} {cd : C} {e : E} {i : Nat} {ds xs : List D} {e2 : Ev} {Q : VK} (ho : ∀ i ∈ tg, i ∈ own) (R : RS w.K w.c σ H Z ev A) (hs : ev[i]? = some (.ow (.l ds))) (hw : wipeE (ev.set i .no) own = some evs)
    (hl : lcL own tg tup (evC w.cf cd) (evE w.cf e) ds [] (ev.set i .no) = .ok xs e2) (he : (unwipe (ev.set i .no) e2 own)[i]? = some .no)
    (h : Out w σ Z (.ok (.f (.l xs)) ((unwipe (ev.set i .no) e2 own).set i (.ow (.l ds)))) fun r ev' H' Z' A' => ∀ x, RR w.K w.c σ H' Z' ev' A' x r → Q x H') :
    iSeq w.K (tVar i) σ H fun J H => ∀ dA, H dA = none → ∃ W : Nat → Nat → Hp → Prop, (∃ m, W 0 m (upd H dA (.lst []))) ∧ ∀ i m H, W i m H →
      (J.stop i H ∧ Q (.ref dA) H) ∨ (J.go i H ∧ ∃ Nx : Hp → Prop, (∀ H', Nx H' → ∃ m', m' < m ∧ W (i + 1) m' H') ∧ ∀ x H', J.yld i H x H' → gTg w.K tup tg x (wipe σ own) H' fun σ2 H2 => wipe σ2 own = wipe σ own ∧ anyC w cd σ2 H2 fun b H3 =>
        if b = true then anyE w e σ2 H3 fun y H4 => ∃ acc, H4 dA = some (.lst acc) ∧ acc.length < sizeLine ∧ Nx (upd H4 dA (.lst (acc ++ [y]))) else Nx H3) := by
  obtain ⟨a, ea, e1, ys, g1, g2, g3⟩ := R.sl i _ hs
  have za : Z a = none := R.zo i a (by rw [e1]; simp)
  have oa : w.c.own a := R.ao i a (by rw [e1]; simp)
  have fa : w.c.F a = none := by
    cases q : w.c.F a with
    | none => rfl
    | some o => exact absurd (by rw [e1]; simp) ((R.pf a o q).2.2 i)
  have R0 := R.hide hs id
  have R1 := R0.hold (as := [a]) (fun p hp => by
    cases List.mem_singleton.mp hp
    refine ⟨by rw [g1]; simp, za, fun j hj => ?_⟩
    by_cases hji : j = i
    · subst hji; rw [setA_same] at hj; cases hj
    · rw [setA_ne hji] at hj
      exact hji (R.dis j i _ hj (by rw [e1]; simp))) (fun p hp zs hx => by
    cases List.mem_singleton.mp hp
    rw [g1] at hx; cases hx) (fun p hp zs hx => by
    cases List.mem_singleton.mp hp
    rw [g1] at hx; cases hx)
  have hF : (w.c.hold H [a]).F a = some (.lst ys) := by
    show addZ w.c.F H [a] a = _
    rw [addZ_in (by simp)]; exact g1
  refine ⟨.ref a, ea, a, rfl, .inl ⟨⟨ys, .inl (.inl g1)⟩, lc_turns (w := { w with c := w.c.hold H [a] }) ho (walkOk_own g2 hF g3) R1 hw hl fun H' Z' A' s' R' x rr => ?_⟩⟩
  obtain ⟨R2, k⟩ := RS.unhold R' fun p hp => by cases List.mem_singleton.mp hp; exact fa
  obtain ⟨k1, k2, k3⟩ := k a (by simp) _ g1
  have hi : i < (unwipe (ev.set i .no) e2 own).length := (List.getElem?_eq_some_iff.mp he).1
  have R3 : RS w.K w.c σ H' Z' ((unwipe (ev.set i .no) e2 own).set i (.ow (.l ds))) (setA A' i [a]) := by
    refine R2.slotNew hi rfl (fun _ _ => rfl) (Same.refl _) R2.sub (fun _ _ q => .inl q) (fun _ _ _ _ _ q => q) (fun _ _ _ _ q => q) (fun _ _ q => q) R2.tb (fun j _ b hb => R2.zo j b hb) ⟨a, ea, rfl, ys, k1, g2, g3.mono s'⟩
      (fun b hb => by cases List.mem_singleton.mp hb; exact k2) (fun b hb => by cases List.mem_singleton.mp hb; exact oa) (fun b hb j _ => by cases List.mem_singleton.mp hb; exact k3 j) (by simp)
      (.inl ⟨R2.noP he id, id⟩) (fun p o q => ⟨(R2.pf p o q).1, (R2.pf p o q).2.1, fun hb => by cases List.mem_singleton.mp hb; rw [fa] at q; cases q⟩)
  refine h H' Z' _ s' R3 x ?_
  obtain ⟨a1, as, q1, q2, q3, q4⟩ := rr
  refine ⟨a1, as, q1, q2, q3, fun b hb => ?_⟩
  obtain ⟨u1, u2, u3, u4⟩ := q4 b hb
  have hba : b ≠ a := fun q => by
    subst q
    rw [hF] at u3; cases u3
  refine ⟨u1, u2, ?_, fun j hj => ?_⟩
  · have : addZ w.c.F H [a] b = none := u3
    rwa [addZ_out (by simpa using hba)] at this
  · by_cases hji : j = i
    · subst hji
      rw [setA_same] at hj
      exact hba (List.mem_singleton.mp hj)
    · rw [setA_ne hji] at hj
      exact u4 j hj
theorem srtk_eq {N : List Str} {ren : String → String} {sc : Scope} {x : String} {a : E} {fn : Expr} {as : List Expr} {kws : List Keyword} {pos : Pos} (hm : mE N ren (.srtk x a) sc (.Call fn as kws pos) = true) :
    ∃ p l ps body scope lp kp, fn = .Name (sN "sorted") p ∧ as = [l] ∧ kws = [⟨some (sN "key"), .Lambda ps body scope lp, kp⟩] ∧ glb sc (sN "sorted") = true ∧ ren ("<lambda> " ++ x) = "<lambda>" ∧ parB1 ps = true ∧ lamB body = true ∧ scoB scope = true ∧ mE N ren a sc l = true ∧ True := by
  cases fn <;> first | (exfalso; revert hm; simp [mE]; done) | skip
  rename_i n p
  match as, kws, hm with
  | [], _, hm => exact absurd hm (by simp [mE])
  | _ :: _ :: _, _, hm => exact absurd hm (by simp [mE])
  | [l], [], hm => exact absurd hm (by simp [mE])
  | [l], _ :: _ :: _, hm => exact absurd hm (by simp [mE])
  | [l], [⟨none, e, kp⟩], hm => exact absurd hm (by simp [mE])
  | [l], [⟨some kw, e, kp⟩], hm =>
    cases e <;> first | (exfalso; revert hm; simp [mE]; done) | skip
    rename_i ps body scope lp
    simp only [mE, Bool.and_eq_true, decide_eq_true_eq] at hm
    obtain ⟨n1, n2, n3, n4, n5, n6, n7, n8⟩ := hm
    cases isN_eq n1
    cases isN_eq n3
    exact ⟨_, _, _, _, _, _, _, rfl, rfl, rfl, n2, n4, n5, n6, n7, n8, trivial⟩
mutual
theorem sndE : ∀ (e : E) {w : Wd} {k : Nat} {N : List Str} {fb : Str → Bool} {X : Cx} {py : Expr}, XOk w k N fb X → Takes X w.W → mE N w.ren e X.env.scope py = true → PE X py (semE w e)
  | .var i, w, k, N, fb, X, py, hX, tk, hm => by
    cases py <;> first | (exfalso; revert hm; simp [mE]; done) | skip
    simp only [mE] at hm
    refine ⟨fun pins s σ H Q I h => (rd_slot hX.N hm).run pins s σ H Q I ?_⟩
    obtain ⟨ev, Z, A, R, h⟩ := h
    simp only [evE] at h
    cases hs : ev[i]? with
    | none => rw [hs] at h; exact h.elim
    | some sv =>
      rw [hs] at h
      cases sv with
      | no => exact h.elim
      | sh d =>
        obtain ⟨_, v, e1, e2⟩ := R.sl i _ hs
        exact ⟨v, e1, h H Z A (Same.refl _) R v e2⟩
      | io ds =>
        obtain ⟨a, e1, e2⟩ := R.sl i _ hs
        exact ⟨.ref a, e1, h H Z A (Same.refl _) R _ e1⟩
      | ow o =>
        cases o with
        | l ds =>
          obtain ⟨a, e1, e2⟩ := R.sl i _ hs
          exact ⟨.ref a, e1, h H Z A (Same.refl _) R _ e1⟩
        | d t kvs =>
          obtain ⟨a, e1, e2⟩ := R.sl i _ hs
          exact ⟨.ref a, e1, h H Z A (Same.refl _) R _ e1⟩
        | ll dss =>
          obtain ⟨Z', x, e1, s1, R1, rp⟩ := R.share hs
          exact ⟨x, e1, h H Z' _ s1 R1 x rp⟩
  | .non, w, k, N, fb, X, py, hX, tk, hm => by
    cases py <;> first | (exfalso; revert hm; simp [mE]; done) | skip
    rename_i c _ _
    cases c <;> first | (exfalso; revert hm; simp [mE]; done) | skip
    refine ⟨fun pins s σ H Q I h => pe_non.run pins s σ H Q I ?_⟩
    obtain ⟨ev, Z, A, R, h⟩ := h
    exact fin_v R h .non
  | .bl b, w, k, N, fb, X, py, hX, tk, hm => by
    cases py <;> first | (exfalso; revert hm; simp [mE]; done) | skip
    rename_i c _ _
    cases c <;> first | (exfalso; revert hm; simp [mE]; done) | skip
    simp only [mE, beq_iff_eq] at hm
    subst hm
    refine ⟨fun pins s σ H Q I h => pe_bl.run pins s σ H Q I ?_⟩
    obtain ⟨ev, Z, A, R, h⟩ := h
    exact fin_v R h (.bl _)
  | .int i, w, k, N, fb, X, py, hX, tk, hm => by
    cases py <;> first | (exfalso; revert hm; simp [mE]; done) | skip
    rename_i c _ _
    cases c <;> first | (exfalso; revert hm; simp [mE]; done) | skip
    simp only [mE, beq_iff_eq] at hm
    subst hm
    refine ⟨fun pins s σ H Q I h => pe_int.run pins s σ H Q I ?_⟩
    obtain ⟨ev, Z, A, R, h⟩ := h
    exact fin_v R h (.int _)
  | .str x, w, k, N, fb, X, py, hX, tk, hm => by
    cases py <;> first | (exfalso; revert hm; simp [mE]; done) | skip
    rename_i c _ _
    cases c <;> first | (exfalso; revert hm; simp [mE]; done) | skip
    simp only [mE] at hm
    cases isN_eq hm
    refine ⟨fun pins s σ H Q I h => pe_str.run pins s σ H Q I ?_⟩
    obtain ⟨ev, Z, A, R, h⟩ := h
    exact fin_v R h (.str _)
  | .glo x, w, k, N, fb, X, py, hX, tk, hm => by
    cases py <;> first | (exfalso; revert hm; simp [mE]; done) | skip
    simp only [mE, Bool.and_eq_true] at hm
    obtain ⟨⟨h1, h2⟩, h3⟩ := hm
    cases isN_eq h1
    cases hg : w.cf.gl x with
    | none =>
      refine ⟨fun pins s σ H Q I h => ?_⟩
      obtain ⟨ev, Z, A, R, h⟩ := h
      simp only [evE, hg] at h
      exact h.elim
    | some d =>
      obtain ⟨v, u, g1, g2, g3⟩ := hX.gls x d hg
      refine ⟨fun pins s σ H Q I h => (pe_glob (glb_gl h2) g1 g2 (okN1 h3)).run pins s σ H Q I ?_⟩
      obtain ⟨ev, Z, A, R, h⟩ := h
      simp only [evE, hg] at h
      exact fin_v R h (hX.K ▸ g3 Z)
  | .bin o a b, w, k, N, fb, X, py, hX, tk, hm => by
    cases py <;> first | (exfalso; revert hm; simp [mE]; done) | skip
    simp only [mE, Bool.and_eq_true, decide_eq_true_eq] at hm
    obtain ⟨⟨rfl, ha⟩, hb⟩ := hm
    refine ⟨fun pins s σ H Q I h => (pe_op (bop_ok o) (sndE a hX tk ha) (sndE b hX tk hb)).run pins s σ H Q I ?_⟩
    obtain ⟨ev, Z, A, R, h⟩ := h
    simp only [evE] at h
    refine semE_mono (sub1 R h) fun x H1 ⟨r, e1, Z1, A1, s1, R1, q1, h1⟩ => semE_mono (sub1 R1 h1) fun y H2 ⟨q, e2, Z2, A2, s2, R2, q2, h2⟩ => ?_
    split at h2
    · rename_i d1 d2 hd1 hd2
      rw [rd_stl] at hd1
      rw [hX.K]
      cases hb : bop o d1 d2 with
      | none => rw [hb] at h2; exact h2.elim
      | some res =>
        rw [hb] at h2
        exact ⟨Z2, d1, d2, res, R2.sub, R2.rdv (q1.later s2) hd1, R2.rdv q2 hd2, hb, R2.give rfl rfl h2⟩
    · exact h2.elim
  | .neg a, w, k, N, fb, X, py, hX, tk, hm => by
    cases py <;> first | (exfalso; revert hm; simp [mE]; done) | skip
    rename_i op _ _
    cases op <;> first | (exfalso; revert hm; simp [mE]; done) | skip
    simp only [mE] at hm
    refine ⟨fun pins s σ H Q I h => (pe_un un_neg (sndE a hX tk hm)).run pins s σ H Q I ?_⟩
    obtain ⟨ev, Z, A, R, h⟩ := h
    simp only [evE] at h
    refine semE_mono (sub1 R h) fun x H1 ⟨r, e1, Z1, A1, s1, R1, q1, h1⟩ => ?_
    split at h1
    · rename_i i hd
      cases (R1.rdv q1 hd).int
      exact ⟨i, rfl, fin_v R1 h1 (.int _)⟩
    · exact h1.elim
  | .cmp o a b, w, k, N, fb, X, py, hX, tk, hm => by
    cases py <;> first | (exfalso; revert hm; simp [mE]; done) | skip
    rename_i l ops rs pos
    match ops, rs, hm with
    | [p], [r], hm =>
      simp only [mE, Bool.and_eq_true, decide_eq_true_eq] at hm
      obtain ⟨⟨rfl, ha⟩, hb⟩ := hm
      refine ⟨fun pins s σ H Q I h => (pe_cmpR (cop_ok hX.units o) (sndE a hX tk ha) (sndE b hX tk hb) (mark_of (mE_noStar hb))).run pins s σ H Q I ?_⟩
      obtain ⟨ev, Z, A, R, h⟩ := h
      simp only [evE] at h
      refine semE_mono (sub1 R h) fun x H1 ⟨r, e1, Z1, A1, s1, R1, q1, h1⟩ => semE_mono (sub1 R1 h1) fun y H2 ⟨q, e2, Z2, A2, s2, R2, q2, h2⟩ => ?_
      split at h2
      · rename_i d1 d2 hd1 hd2
        rw [rd_stl] at hd1
        rw [hX.K]
        split at h2
        · rename_i res hb
          exact ⟨Z2, d1, d2, res, R2.sub, R2.rdv (q1.later s2) hd1, R2.rdv q2 hd2, hb, fin_v R2 h2 (.bl _)⟩
        · exact h2.elim
      · exact h2.elim
    | [], _, hm => exact absurd hm (by simp [mE])
    | _ :: _ :: _, _, hm => exact absurd hm (by simp [mE])
    | [_], [], hm => exact absurd hm (by simp [mE])
    | [_], _ :: _ :: _, hm => exact absurd hm (by simp [mE])
  | .chn o p a b d, w, k, N, fb, X, py, hX, tk, hm => by
    cases py <;> first | (exfalso; revert hm; simp [mE]; done) | skip
    rename_i l ops rs pos
    match ops, rs, hm with
    | [o', p'], [m, r], hm =>
      simp only [mE, Bool.and_eq_true, decide_eq_true_eq] at hm
      obtain ⟨⟨⟨⟨rfl, rfl⟩, ha⟩, hb⟩, hd⟩ := hm
      refine ⟨fun pins s σ H Q I h => (pe_chain (cop_ok hX.units o) (cop_ok hX.units p) (sndE a hX tk ha) (sndE b hX tk hb) (sndE d hX tk hd) (mark_of (mE_noStar hd))).run pins s σ H Q I ?_⟩
      obtain ⟨ev, Z, A, R, h⟩ := h
      simp only [evE] at h
      refine semE_mono (sub1 R h) fun x H1 ⟨r, e1, Z1, A1, s1, R1, q1, h1⟩ => semE_mono (sub1 R1 h1) fun y H2 ⟨q, e2, Z2, A2, s2, R2, q2, h2⟩ => ?_
      split at h2
      · rename_i d1 d2 hd1 hd2
        rw [rd_stl] at hd1 hd2
        rw [hX.K]
        split at h2
        · rename_i hb
          refine ⟨Z2, d1, d2, true, R2.sub, R2.rdv (q1.later s2) hd1, R2.rdv q2 hd2, hb, true, rfl, ?_⟩
          rw [if_pos rfl]
          refine semE_mono (sub1 R2 h2) fun z H3 ⟨u, e3, Z3, A3, s3, R3, q3, h3⟩ => ?_
          split at h3
          · rename_i d3 d4 hd3 hd4
            rw [rd_stl] at hd3
            split at h3
            · rename_i res hb
              exact ⟨Z3, d3, d4, res, R3.sub, R3.rdv (q2.later s3) hd3, R3.rdv q3 hd4, hb, fin_v R3 h3 (.bl _)⟩
            · exact h3.elim
          · exact h3.elim
        · rename_i hb
          refine ⟨Z2, d1, d2, false, R2.sub, R2.rdv (q1.later s2) hd1, R2.rdv q2 hd2, hb, false, rfl, ?_⟩
          rw [if_neg (by simp)]
          exact fin_v R2 h2 (.bl _)
        · exact h2.elim
      · exact h2.elim
    | [], _, hm => exact absurd hm (by simp [mE])
    | [_], _, hm => exact absurd hm (by simp [mE])
    | _ :: _ :: _ :: _, _, hm => exact absurd hm (by simp [mE])
    | [_, _], [], hm => exact absurd hm (by simp [mE])
    | [_, _], [_], hm => exact absurd hm (by simp [mE])
    | [_, _], _ :: _ :: _ :: _, hm => exact absurd hm (by simp [mE])
  | .and a b, w, k, N, fb, X, py, hX, tk, hm => by
    cases py <;> first | (exfalso; revert hm; simp [mE]; done) | skip
    rename_i op vs pos
    cases op <;> first | (exfalso; revert hm; simp [mE]; done) | skip
    match vs, hm with
    | x :: y :: rest, hm =>
      simp only [mE, Bool.and_eq_true] at hm
      have hb : PE X (.BoolOp .And (y :: rest) pos) (semE w b) := by
        cases rest with
        | nil => exact pe_one (sndE b hX tk hm.2)
        | cons z rest => exact sndE b hX tk hm.2
      refine ⟨fun pins s σ H Q I h => (pe_andT (sndE a hX tk hm.1) hb).run pins s σ H Q I ?_⟩
      obtain ⟨ev, Z, A, R, h⟩ := h
      simp only [evE] at h
      refine semE_mono (sub1 R h) fun v H1 ⟨r, e1, Z1, A1, s1, R1, q1, h1⟩ => ?_
      split at h1
      · rename_i d hd
        rw [hX.K]
        have rv := R1.rdv q1 hd
        split at h1
        · rename_i ht
          refine ⟨true, truth_of R1.sub rv ht, ?_⟩
          rw [if_pos rfl]
          exact ⟨e1, Z1, A1, R1, h1⟩
        · rename_i ht
          refine ⟨false, truth_of R1.sub rv ht, ?_⟩
          rw [if_neg (by simp)]
          exact h1 H1 Z1 A1 (Same.refl _) R1 v q1
        · exact h1.elim
      · exact h1.elim
    | [], hm => exact absurd hm (by simp [mE])
    | [_], hm => exact absurd hm (by simp [mE])
  | .or a b, w, k, N, fb, X, py, hX, tk, hm => by
    cases py <;> first | (exfalso; revert hm; simp [mE]; done) | skip
    rename_i op vs pos
    cases op <;> first | (exfalso; revert hm; simp [mE]; done) | skip
    match vs, hm with
    | x :: y :: rest, hm =>
      simp only [mE, Bool.and_eq_true] at hm
      have hb : PE X (.BoolOp .Or (y :: rest) pos) (semE w b) := by
        cases rest with
        | nil => exact pe_one (sndE b hX tk hm.2)
        | cons z rest => exact sndE b hX tk hm.2
      refine ⟨fun pins s σ H Q I h => (pe_orT (sndE a hX tk hm.1) hb).run pins s σ H Q I ?_⟩
      obtain ⟨ev, Z, A, R, h⟩ := h
      simp only [evE] at h
      refine semE_mono (sub1 R h) fun v H1 ⟨r, e1, Z1, A1, s1, R1, q1, h1⟩ => ?_
      split at h1
      · rename_i d hd
        rw [hX.K]
        have rv := R1.rdv q1 hd
        split at h1
        · rename_i ht
          refine ⟨false, truth_of R1.sub rv ht, ?_⟩
          rw [if_neg (by simp)]
          exact ⟨e1, Z1, A1, R1, h1⟩
        · rename_i ht
          refine ⟨true, truth_of R1.sub rv ht, ?_⟩
          rw [if_pos rfl]
          exact h1 H1 Z1 A1 (Same.refl _) R1 v q1
        · exact h1.elim
      · exact h1.elim
    | [], hm => exact absurd hm (by simp [mE])
    | [_], hm => exact absurd hm (by simp [mE])
  | .not a, w, k, N, fb, X, py, hX, tk, hm => by
    cases py <;> first | (exfalso; revert hm; simp [mE]; done) | skip
    rename_i op _ _
    cases op <;> first | (exfalso; revert hm; simp [mE]; done) | skip
    simp only [mE] at hm
    refine ⟨fun pins s σ H Q I h => (pe_notT (sndE a hX tk hm)).run pins s σ H Q I ?_⟩
    obtain ⟨ev, Z, A, R, h⟩ := h
    simp only [evE] at h
    refine semE_mono (sub1 R h) fun x H1 ⟨r, e1, Z1, A1, s1, R1, q1, h1⟩ => ?_
    split at h1
    · rename_i d hd
      rw [hX.K]
      split at h1
      · rename_i b ht
        exact ⟨b, truth_of R1.sub (R1.rdv q1 hd) ht, fin_v R1 h1 (.bl _)⟩
      · exact h1.elim
    · exact h1.elim
  | .ife t a b, w, k, N, fb, X, py, hX, tk, hm => by
    cases py <;> first | (exfalso; revert hm; simp [mE]; done) | skip
    simp only [mE, Bool.and_eq_true] at hm
    refine ⟨fun pins s σ H Q I h => (pe_ifExp (sndT t hX tk hm.1.1) (sndE a hX tk hm.1.2) (sndE b hX tk hm.2)).run pins s σ H Q I ?_⟩
    obtain ⟨ev, Z, A, R, h⟩ := h
    simp only [evE] at h
    refine semT_mono (subT R h) fun v H1 ⟨e1, Z1, A1, s1, R1, h1⟩ => ?_
    cases v with
    | true => exact if_pos rfl ▸ ⟨e1, Z1, A1, R1, h1⟩
    | false => rw [if_neg (by simp)]; exact ⟨e1, Z1, A1, R1, h1⟩
  | .tup es, w, k, N, fb, X, py, hX, tk, hm => by
    cases py <;> first | (exfalso; revert hm; simp [mE]; done) | skip
    simp only [mE] at hm
    refine ⟨fun pins s σ H Q I h => (pe_tup (sndEs es hX tk hm)).run pins s σ H Q I ?_⟩
    obtain ⟨ev, Z, A, R, h⟩ := h
    simp only [evE] at h
    refine semEs_mono (subEs R h) fun xs H1 ⟨rs, e1, Z1, A1, s1, R1, q1, h1⟩ => ?_
    split at h1
    · rename_i ds e2 hes
      obtain ⟨Z2, A2, s2, R2, rp⟩ := R1.escs q1 hes
      split at h1
      · rename_i hl
        rw [line_eq, ← rp.length] at hl
        refine ⟨hl, fun p hp => ?_⟩
        exact Give.tup R2.sub (R2.give rfl rfl (Out.same h1 s2)) hl rp hp
      · exact h1.elim
    · exact h1.elim
  | .lst es, w, k, N, fb, X, py, hX, tk, hm => by
    cases py <;> first | (exfalso; revert hm; simp [mE]; done) | skip
    simp only [mE] at hm
    refine ⟨fun pins s σ H Q I h => (pe_lst (sndEs es hX tk hm)).run pins s σ H Q I ?_⟩
    obtain ⟨ev, Z, A, R, h⟩ := h
    simp only [evE] at h
    refine semEs_mono (subEs R h) fun xs H1 ⟨rs, e1, Z1, A1, s1, R1, q1, h1⟩ => ?_
    split at h1
    · rename_i ds e2 hes
      obtain ⟨Z2, A2, s2, R2, rp⟩ := R1.escs q1 hes
      split at h1
      · rename_i hl
        rw [line_eq, ← rp.length] at hl
        refine ⟨hl, fun p hp => ?_⟩
        exact Give.lst R2.sub (R2.give rfl rfl (Out.same h1 s2)) hl rp hp
      · exact h1.elim
    · exact h1.elim
  | .dnew t, w, k, N, fb, X, py, hX, tk, hm => by
    cases py <;> first | (exfalso; revert hm; simp [mE]; done) | skip
    rename_i ks vs pos
    match ks, vs, hm with
    | [], [], hm =>
      refine ⟨fun pins s σ H Q I h => ?_⟩
      obtain ⟨ev, Z, A, R, h⟩ := h
      simp only [evE] at h
      have g := R.give rfl rfl h
      cases t with
      | false => exact pe_dnewK.run pins s σ H Q I fun p hp => g.dct R.sub hp
      | true => exact pe_dnewT.run pins s σ H Q I fun p hp => g.dct R.sub hp
    | _ :: _, _, hm => exact absurd hm (by simp [mE])
    | [], _ :: _, hm => exact absurd hm (by simp [mE])
  | .idx a b, w, k, N, fb, X, py, hX, tk, hm => by
    cases py <;> first | (exfalso; revert hm; simp [mE]; done) | skip
    simp only [mE, Bool.and_eq_true] at hm
    refine ⟨fun pins s σ H Q I h => (pe_ix (ix_list.or ix_tup) (sndE a hX tk hm.1) (sndE b hX tk hm.2) (sub_of (mE_noStar hm.2))).run pins s σ H Q I ?_⟩
    obtain ⟨ev, Z, A, R, h⟩ := h
    simp only [evE] at h
    refine semE_mono (sub1 R h) fun x H1 ⟨r, e1, Z1, A1, s1, R1, q1, h1⟩ => semE_mono (sub1 R1 h1) fun y H2 ⟨q, e2, Z2, A2, s2, R2, q2, h2⟩ => ?_
    split at h2
    · rename_i d1 d2 hd1 hd2
      rw [rd_stl] at hd1
      have r1 := R2.rdv (q1.later s2) hd1
      have r2 := R2.rdv q2 hd2
      split at h2
      · rename_i d hi
        cases d1 <;> (first | (simp [idxD] at hi; done) | skip) <;> cases d2 <;> (first | (simp [idxD] at hi; done) | skip)
        · simp only [idxD] at hi
          cases r2.int
          obtain ⟨p, xs, rfl, g1, g2, g3⟩ := r1.list R2.sub
          obtain ⟨v, hv, rv⟩ := g3.atD hi
          exact .inl ⟨p, xs, _, v, rfl, rfl, .inl (.inl g1), hv, fin_v R2 h2 rv⟩
        · simp only [idxD] at hi
          cases r2.int
          obtain ⟨p, xs, rfl, g1, g2, g3⟩ := r1.tuple R2.sub
          obtain ⟨v, hv, rv⟩ := g3.atD hi
          exact .inr ⟨p, xs, _, v, rfl, rfl, .inl (.inl g1), hv, fin_v R2 h2 rv⟩
      · exact h2.elim
    · exact h2.elim
  | .idx2 i a j, w, k, N, fb, X, py, hX, tk, hm => by
    cases py <;> first | (exfalso; revert hm; simp [mE]; done) | skip
    rename_i l r pos
    cases l <;> first | (exfalso; revert hm; simp [mE]; done) | skip
    rename_i l m pos'
    cases l <;> first | (exfalso; revert hm; simp [mE]; done) | skip
    cases r <;> first | (exfalso; revert hm; simp [mE]; done) | skip
    simp only [mE, Bool.and_eq_true] at hm
    refine ⟨fun pins s σ H Q I h => (pe_ix ix_list (pe_ix ix_list (rd_slot hX.N hm.1.1) (sndE a hX tk hm.1.2) (sub_of (mE_noStar hm.1.2))) (rd_slot hX.N hm.2) (fun _ _ => rfl)).run pins s σ H Q I ?_⟩
    obtain ⟨ev, Z, A, R, h⟩ := h
    simp only [evE] at h
    split at h
    · rename_i xs0 h0
      obtain ⟨_, a0, bs0, e0, _⟩ := ll_spot R h0
      refine ⟨.ref a0, e0, semE_mono (sub1 R h) fun y H1 ⟨r, e1, Z1, A1, s1, R1, q1, h1⟩ => ?_⟩
      split at h1
      · rename_i m xss n hd hl hj
        obtain ⟨_, a1, bs, e1', e2', g1, g2, g3, g4⟩ := ll_spot R1 hl
        rw [e0] at e1'
        cases e1'
        cases (R1.rdv q1 hd).int
        split at h1
        · rename_i xs hx
          obtain ⟨k, b, ys, _, _, _, w1, w2, w3, w4⟩ := ll_at g3 g4 hx
          split at h1
          · rename_i d hxd
            obtain ⟨v, hv, rv⟩ := w4.atD hxd
            have hσj : ∃ x, σ[j]? = some (some x) ∧ RdV w.K Z1 H1 x (.int n) := by
              cases hsj : e1[j]? with
              | none => simp only [rd, hsj] at hj; cases hj
              | some sv =>
                have q := R1.sl j sv hsj
                have hx : ∃ x, σ[j]? = some (some x) := by
                  cases sv with
                  | no => simp only [rd, hsj] at hj; cases hj
                  | sh d => obtain ⟨_, v, q, _⟩ := q; exact ⟨v, q⟩
                  | ow o => obtain ⟨a, q, _⟩ := q; exact ⟨_, q⟩
                  | io ds => obtain ⟨a, q, _⟩ := q; exact ⟨_, q⟩
                obtain ⟨x, hx⟩ := hx
                exact ⟨x, hx, R1.rdv (r := .s j) hx hj⟩
            obtain ⟨x, hx, rx⟩ := hσj
            cases rx.int
            exact ⟨a0, _, _, _, rfl, rfl, .inl (.inl g1), w1, _, hx, b, ys, _, v, rfl, rfl, .inl (.inl w2), hv, fin_v R1 h1 rv⟩
          · exact h1.elim
        · exact h1.elim
      · exact h1.elim
    · exact h.elim
  | .slc a lo hi, w, k, N, fb, X, py, hX, tk, hm => by
    cases py <;> first | (exfalso; revert hm; simp [mE]; done) | skip
    rename_i l sl pos
    cases sl <;> first | (exfalso; revert hm; simp [mE]; done) | skip
    rename_i x y st pos'
    cases st <;> first | (exfalso; revert hm; simp [mE]; done) | skip
    simp only [mE, Bool.and_eq_true] at hm
    refine ⟨fun pins s σ H Q I h => (pe_slice (sl_list.or sl_tupA) (sndE a hX tk hm.1.1) (sndO lo hX tk hm.1.2) (sndO hi hX tk hm.2)).run pins s σ H Q I ?_⟩
    obtain ⟨ev, Z, A, R, h⟩ := h
    simp only [evE] at h
    refine semE_mono (sub1 R h) fun v H1 ⟨r, e1, Z1, A1, s1, R1, q1, h1⟩ => semO_mono (subO R1 h1) fun x H2 ⟨e2, Z2, A2, s2, R2, h2⟩ => semO_mono (subO R2 h2) fun y H3 ⟨e3, Z3, A3, s3, R3, h3⟩ => ?_
    split at h3
    · rename_i d hd
      rw [rd_stl] at hd
      have r1 := R3.rdv (q1.later (s2.trans s3)) hd
      cases hs : slcD d x y with
      | none => rw [hs] at h3; exact h3.elim
      | some res =>
        rw [hs] at h3
        have g := R3.give rfl rfl h3
        cases d <;> (simp only [slcD] at hs) <;> cases hs
        · obtain ⟨p, xs, rfl, g1, g2, g3⟩ := r1.list R3.sub
          exact .inl ⟨p, xs, rfl, .inl (.inl g1), fun p' hp => g.lst R3.sub (Nat.le_trans (cutV_length _ _ _) g2) (g3.cut x y) hp⟩
        · obtain ⟨p, xs, rfl, g1, g2, g3⟩ := r1.tuple R3.sub
          refine .inr ⟨p, xs, rfl, .inl (.inl g1), fun z => ?_, fun _ p' hp => g.tup R3.sub (Nat.le_trans (cutV_length _ _ _) g2) (g3.cut x y) hp⟩
          have e1 : cutV xs x y = xs := by
            unfold cutV
            rw [z.1, z.2, List.drop_zero, Nat.sub_zero, List.take_length]
          have c := g3.cut x y
          rw [e1] at c
          exact g.v R3.sub (.tup (by
            rcases r1 with r1 | ⟨_, _, ⟨_, _, e, _⟩ | ⟨_, _, e, _⟩ | ⟨_, _, e, _⟩⟩
            · cases r1 with
              | tup w1 w2 w3 =>
                have := R3.sub _ _ w1
                rw [g1] at this
                cases this
                exact w1
            all_goals cases e) g2 c)
    · exact h3.elim
  | .dget a b, w, k, N, fb, X, py, hX, tk, hm => by
    cases py <;> first | (exfalso; revert hm; simp [mE]; done) | skip
    simp only [mE, Bool.and_eq_true] at hm
    refine ⟨fun pins s σ H Q I h => (pe_dget (by have := hX.units; omega) (sndE a hX tk hm.1) (sndE b hX tk hm.2) (sub_of (mE_noStar hm.2))).run pins s σ H Q I ?_⟩
    obtain ⟨ev, Z, A, R, h⟩ := h
    simp only [evE] at h
    refine semE_mono (sub1 R h) fun x H1 ⟨r, e1, Z1, A1, s1, R1, q1, h1⟩ => semE_mono (sub1 R1 h1) fun y H2 ⟨q, e2, Z2, A2, s2, R2, q2, h2⟩ => ?_
    split at h2
    · rename_i tt kvs kk hd1 hd2
      rw [rd_stl] at hd1
      have r1 := R2.rdv (q1.later s2) hd1
      have r2 := R2.rdv q2 hd2
      split at h2
      · rename_i d hg
        split at hg
        · rename_i hok
          obtain ⟨p, o, rfl, dg, ho⟩ := dget_of R2.sub r1 r2 hok
          rcases ho with ⟨_, e⟩ | ⟨v, d', rfl, e, rp⟩
          · rw [e] at hg; cases hg
          · rw [e] at hg
            cases hg
            exact ⟨p, v, rfl, dg, fin_v R2 h2 rp⟩
        · cases hg
      · exact h2.elim
    · exact h2.elim
  | .call f es, w, k, N, fb, X, py, hX, tk, hm => by
    cases py <;> first | (exfalso; revert hm; simp [mE]; done) | skip
    rename_i fn as kws pos
    cases fn <;> first | (exfalso; revert hm; simp [mE]; done) | skip
    rename_i x pos'
    match as, kws, hm with
    | y :: ys, [], hm =>
      simp only [mE, Bool.and_eq_true] at hm
      obtain ⟨⟨⟨h1, h2⟩, h3⟩, h4⟩ := hm
      cases isN_eq h1
      cases hg : w.cf.G f with
      | none =>
        refine ⟨fun pins s σ H Q I h => ?_⟩
        obtain ⟨ev, Z, A, R, h⟩ := h
        simp only [evE, hg] at h
        exact h.elim
      | some F =>
        obtain ⟨a, fd, ps, g1, g2, g3, g4⟩ := hX.fns f F hg
        have st : noStar y = true := by
          cases es with
          | nil => simp [mEs] at h4
          | cons e es => simp only [mEs, Bool.and_eq_true] at h4; exact mE_noStar h4.1
        have sp : (backTo pos (starEach ys X.env)).any (·.1) = false := by
          cases es with
          | nil => simp [mEs] at h4
          | cons e es => simp only [mEs, Bool.and_eq_true] at h4; exact mEs_star h4.2
        refine ⟨fun pins s σ H Q I h => (pe_callS (E := WE w.W) g4 hX.room (glb_gl h2) g1 g2 g3 (passAt tk) (sndEs es hX tk h4) (okN1 h3) (star_of st) sp).run pins s σ H Q I ?_⟩
        obtain ⟨ev, Z, A, R, h⟩ := h
        simp only [evE, hg] at h
        refine semEs_mono (subEs R h) fun xs H1 ⟨rs, e1, Z1, A1, s1, R1, q1, h1⟩ => ?_
        split at h1
        · rename_i ds ls e2 hl
          obtain ⟨Z2, A2, P, s2, R2, ar, lt⟩ := R1.lend 0 q1 hl
          rw [hX.K]
          refine ⟨Z2, ds, P, R2.sub, R2.nz, R2.tb, ar, ?_⟩
          cases hr : F.run ds with
          | bad => rw [hr] at h1; exact h1.elim
          | ex x' =>
            rw [hr] at h1
            simp only at h1
            split at h1
            · rename_i hls
              intro cls dd H' Z' p ex
              have e0 : ls = [] := by simpa using hls
              subst e0
              have eP : P = [] := by
                cases P with
                | nil => rfl
                | cons _ _ => exact lt.elim
              subst eP
              exact h1 H' Z' A2 cls dd (s2.trans p.zz) (R2.extN p.zz p.sub p.zf (fun q ps e => absurd e (p.nz q ps)) (fun q u e t => p.fr q u e (fun i hi => by cases hi) t) p.tk p.tb) ex
            · exact h1.elim
          | ok r outs =>
            rw [hr] at h1
            simp only at h1
            split at h1
            · rename_i e3 hb
              intro x' H' Z' p o n
              exact h1 H' Z' A2 (s2.trans p.zz) (R2.called lt p o hb) x' (R2.newR n)
            · exact h1.elim
        · exact h1.elim
    | [], _, hm => exact absurd hm (by simp [mE])
    | _ :: _, _ :: _, hm => exact absurd hm (by simp [mE])
  | .blt f es, w, k, N, fb, X, py, hX, tk, hm => by
    cases py <;> first | (exfalso; revert hm; simp [mE]; done) | skip
    rename_i fn as kws pos
    cases fn <;> first | (exfalso; revert hm; simp [mE]; done) | skip
    rename_i x pos'
    match as, kws, hm with
    | y :: ys, [], hm =>
      simp only [mE, Bool.and_eq_true] at hm
      obtain ⟨⟨h1, h2⟩, h4⟩ := hm
      have st : noStar y = true := by
        cases es with
        | nil => simp [mEs] at h4
        | cons e es => simp only [mEs, Bool.and_eq_true] at h4; exact mE_noStar h4.1
      have sp : (backTo pos (starEach ys X.env)).any (·.1) = false := by
        cases es with
        | nil => simp [mEs] at h4
        | cons e es => simp only [mEs, Bool.and_eq_true] at h4; exact mEs_star h4.2
      have hx := isN_eq h1
      refine ⟨fun pins s σ H Q I h => (pe_blt f hX.calm hX.units hx (glb_gl h2) (hx ▸ hX.blt _ (blt_mem f)) (sndEs es hX tk h4) (star_of st) sp).run pins s σ H Q I ?_⟩
      obtain ⟨ev, Z, A, R, h⟩ := h
      simp only [evE] at h
      refine semEs_mono (subEs R h) fun xs H1 ⟨rs, e1, Z1, A1, s1, R1, q1, h1⟩ => ?_
      split at h1
      · rename_i ds hd
        rw [hX.K]
        cases hb : blt f ds with
        | none => rw [hb] at h1; exact h1.elim
        | some res =>
          rw [hb] at h1
          exact ⟨Z1, ds, res, R1.sub, R1.rds q1 hd, hb, R1.give rfl rfl h1⟩
      · exact h1.elim
    | [], _, hm => exact absurd hm (by simp [mE])
    | _ :: _, _ :: _, hm => exact absurd hm (by simp [mE])
  | .lrg a, w, k, N, fb, X, py, hX, tk, hm => by
    cases py <;> first | (exfalso; revert hm; simp [mE]; done) | skip
    rename_i fn as kws pos
    cases fn <;> first | (exfalso; revert hm; simp [mE]; done) | skip
    match as, kws, hm with
    | [], _, hm => exact absurd hm (by simp [mE])
    | _ :: _ :: _, _, hm => exact absurd hm (by simp [mE])
    | [y], _ :: _, hm => exact absurd hm (by simp [mE])
    | [y], [], hm =>
      cases y <;> first | (exfalso; revert hm; simp [mE]; done) | skip
      rename_i fn2 as2 kws2 pos2
      cases fn2 <;> first | (exfalso; revert hm; simp [mE]; done) | skip
      match as2, kws2, hm with
      | [], _, hm => exact absurd hm (by simp [mE])
      | _ :: _ :: _, _, hm => exact absurd hm (by simp [mE])
      | [l], _ :: _, hm => exact absurd hm (by simp [mE])
      | [l], [], hm =>
        simp only [mE, Bool.and_eq_true] at hm
        obtain ⟨⟨⟨⟨h1, h2⟩, h3⟩, h4⟩, h5⟩ := hm
        cases isN_eq h1
        cases isN_eq h3
        refine ⟨fun pins s σ H Q I h => (pe_listRg hX.calm (glb_gl h2) (hX.blt "list" (by decide)) (prg_1 (glb_gl h4) (hX.blt "range" (by decide)) (sndE a hX tk h5) (star_of (mE_noStar h5))) rfl).run pins s σ H Q I ?_⟩
        obtain ⟨ev, Z, A, R, h⟩ := h
        simp only [evE] at h
        refine semE_mono (sub1 R h) fun x H1 ⟨r, e1, Z1, A1, s1, R1, q1, h1⟩ => ?_
        split at h1
        · rename_i n hd
          cases (R1.rdv q1 hd).int
          split at h1
          · rename_i hn
            have hn2 : n ≤ 16777216 := hn.2
            have g := R1.give rfl rfl h1
            refine ⟨n, rfl, ⟨by omega, by omega, by omega, by omega, by omega⟩, fun q hq => ?_⟩
            refine g.lst R1.sub ?_ ?_ hq
            · rw [rgV_length, sizeLine_eq]; omega
            · unfold rgV rngD
              rw [Int.sub_zero]
              have key : ∀ l : List Nat, Rps w.K Z1 (l.map fun (i : Nat) => V.int (0 + (i : Nat))) (l.map fun (i : Nat) => PyData.int (0 + (i : Nat))) := by
                intro l
                induction l with
                | nil => exact .nil
                | cons i l ih => exact .cons (.int _) ih
              exact key _
          · exact h1.elim
        · exact h1.elim
  | .lrg2 a b, w, k, N, fb, X, py, hX, tk, hm => by
    cases py <;> first | (exfalso; revert hm; simp [mE]; done) | skip
    rename_i fn as kws pos
    cases fn <;> first | (exfalso; revert hm; simp [mE]; done) | skip
    match as, kws, hm with
    | [], _, hm => exact absurd hm (by simp [mE])
    | _ :: _ :: _, _, hm => exact absurd hm (by simp [mE])
    | [y], _ :: _, hm => exact absurd hm (by simp [mE])
    | [y], [], hm =>
      cases y <;> first | (exfalso; revert hm; simp [mE]; done) | skip
      rename_i fn2 as2 kws2 pos2
      cases fn2 <;> first | (exfalso; revert hm; simp [mE]; done) | skip
      match as2, kws2, hm with
      | [], _, hm => exact absurd hm (by simp [mE])
      | [_], _, hm => exact absurd hm (by simp [mE])
      | _ :: _ :: _ :: _, _, hm => exact absurd hm (by simp [mE])
      | [_, _], _ :: _, hm => exact absurd hm (by simp [mE])
      | [l, m], [], hm =>
        simp only [mE, Bool.and_eq_true] at hm
        obtain ⟨⟨⟨⟨⟨h1, h2⟩, h3⟩, h4⟩, h5⟩, h6⟩ := hm
        cases isN_eq h1
        cases isN_eq h3
        have st := star_of (env := X.env) (es := []) (mE_noStar h6)
        have st2 := star_of (env := X.env) (es := [m]) (mE_noStar h5)
        refine ⟨fun pins s σ H Q I h => (pe_listRg hX.calm (glb_gl h2) (hX.blt "list" (by decide)) (prg_2 (glb_gl h4) (hX.blt "range" (by decide)) (sndE a hX tk h5) (sndE b hX tk h6) st2 st (by rw [st]; rfl)) rfl).run pins s σ H Q I ?_⟩
        obtain ⟨ev, Z, A, R, h⟩ := h
        simp only [evE] at h
        refine semE_mono (sub1 R h) fun x H1 ⟨r, e1, Z1, A1, s1, R1, q1, h1⟩ => semE_mono (sub1 R1 h1) fun y H2 ⟨q, e2, Z2, A2, s2, R2, q2, h2⟩ => ?_
        split at h2
        · rename_i i j hd1 hd2
          rw [rd_stl] at hd1
          cases (R2.rdv (q1.later s2) hd1).int
          cases (R2.rdv q2 hd2).int
          split at h2
          · rename_i hn
            have hn2 : j - i ≤ 16777216 := hn.2.2.2.2
            have g := R2.give rfl rfl h2
            refine ⟨i, j, rfl, rfl, ⟨by omega, by omega, by omega, by omega, by omega⟩, fun q hq => ?_⟩
            refine g.lst R2.sub ?_ ?_ hq
            · rw [rgV_length, sizeLine_eq]; omega
            · unfold rgV rngD
              have key : ∀ l : List Nat, Rps w.K Z2 (l.map fun (z : Nat) => V.int (i + (z : Nat))) (l.map fun (z : Nat) => PyData.int (i + (z : Nat))) := by
                intro l
                induction l with
                | nil => exact .nil
                | cons i l ih => exact .cons (.int _) ih
              exact key _
          · exact h2.elim
        · exact h2.elim
  | .trg a, w, k, N, fb, X, py, hX, tk, hm => by
    cases py <;> first | (exfalso; revert hm; simp [mE]; done) | skip
    rename_i fn as kws pos
    cases fn <;> first | (exfalso; revert hm; simp [mE]; done) | skip
    match as, kws, hm with
    | [], _, hm => exact absurd hm (by simp [mE])
    | _ :: _ :: _, _, hm => exact absurd hm (by simp [mE])
    | [y], _ :: _, hm => exact absurd hm (by simp [mE])
    | [y], [], hm =>
      cases y <;> first | (exfalso; revert hm; simp [mE]; done) | skip
      rename_i fn2 as2 kws2 pos2
      cases fn2 <;> first | (exfalso; revert hm; simp [mE]; done) | skip
      match as2, kws2, hm with
      | [], _, hm => exact absurd hm (by simp [mE])
      | _ :: _ :: _, _, hm => exact absurd hm (by simp [mE])
      | [l], _ :: _, hm => exact absurd hm (by simp [mE])
      | [l], [], hm =>
        simp only [mE, Bool.and_eq_true] at hm
        obtain ⟨⟨⟨⟨h1, h2⟩, h3⟩, h4⟩, h5⟩ := hm
        cases isN_eq h1
        cases isN_eq h3
        refine ⟨fun pins s σ H Q I h => (pe_tupRg hX.calm (glb_gl h2) (hX.blt "tuple" (by decide)) (prg_1 (glb_gl h4) (hX.blt "range" (by decide)) (sndE a hX tk h5) (star_of (mE_noStar h5))) rfl).run pins s σ H Q I ?_⟩
        obtain ⟨ev, Z, A, R, h⟩ := h
        simp only [evE] at h
        refine semE_mono (sub1 R h) fun x H1 ⟨r, e1, Z1, A1, s1, R1, q1, h1⟩ => ?_
        split at h1
        · rename_i n hd
          cases (R1.rdv q1 hd).int
          split at h1
          · rename_i hn
            have hn2 : n ≤ 16777216 := hn.2
            have g := R1.give rfl rfl h1
            refine ⟨n, rfl, ⟨by omega, by omega, by omega, by omega, by omega⟩, fun q hq => ?_⟩
            refine g.tup R1.sub ?_ ?_ hq
            · rw [rgV_length, sizeLine_eq]; omega
            · unfold rgV rngD
              rw [Int.sub_zero]
              have key : ∀ l : List Nat, Rps w.K Z1 (l.map fun (i : Nat) => V.int (0 + (i : Nat))) (l.map fun (i : Nat) => PyData.int (0 + (i : Nat))) := by
                intro l
                induction l with
                | nil => exact .nil
                | cons i l ih => exact .cons (.int _) ih
              exact key _
          · exact h1.elim
        · exact h1.elim
  | .rev a, w, k, N, fb, X, py, hX, tk, hm => by
    cases py <;> first | (exfalso; revert hm; simp [mE]; done) | skip
    rename_i l sl pos
    cases sl <;> first | (exfalso; revert hm; simp [mE]; done) | skip
    rename_i x y st pos'
    cases x <;> first | (exfalso; revert hm; simp [mE]; done) | skip
    cases y <;> first | (exfalso; revert hm; simp [mE]; done) | skip
    cases st <;> first | (exfalso; revert hm; simp [mE]; done) | skip
    rename_i st
    cases st <;> first | (exfalso; revert hm; simp [mE]; done) | skip
    rename_i uo ua upos
    cases uo <;> first | (exfalso; revert hm; simp [mE]; done) | skip
    cases ua <;> first | (exfalso; revert hm; simp [mE]; done) | skip
    rename_i cc ck cpos
    cases cc <;> first | (exfalso; revert hm; simp [mE]; done) | skip
    simp only [mE, Bool.and_eq_true, decide_eq_true_eq] at hm
    obtain ⟨hz, hm⟩ := hm
    subst hz
    refine ⟨fun pins s σ H Q I h => (pe_rev (sndE a hX tk hm)).run pins s σ H Q I ?_⟩
    obtain ⟨ev, Z, A, R, h⟩ := h
    simp only [evE] at h
    refine semE_mono (sub1 R h) fun x H1 ⟨r, e1, Z1, A1, s1, R1, q1, h1⟩ => ?_
    split at h1
    · rename_i d hd
      have r1 := R1.rdv q1 hd
      cases hs : revD d with
      | none => rw [hs] at h1; exact h1.elim
      | some res =>
        rw [hs] at h1
        have g := R1.give rfl rfl h1
        cases d <;> (simp only [revD] at hs) <;> cases hs
        · obtain ⟨p, xs, rfl, g1, g2, g3⟩ := r1.list R1.sub
          exact ⟨p, xs, rfl, .inl ⟨.inl (.inl g1), fun p' hp => g.lst R1.sub (by rw [List.length_reverse]; exact g2) g3.rev hp⟩⟩
        · obtain ⟨p, xs, rfl, g1, g2, g3⟩ := r1.tuple R1.sub
          exact ⟨p, xs, rfl, .inr ⟨.inl (.inl g1), fun p' hp => g.tup R1.sub (by rw [List.length_reverse]; exact g2) g3.rev hp⟩⟩
    · exact h1.elim
  | .isi a ty, w, k, N, fb, X, py, hX, tk, hm => by
    cases py <;> first | (exfalso; revert hm; simp [mE]; done) | skip
    rename_i fn as kws pos
    cases fn <;> first | (exfalso; revert hm; simp [mE]; done) | skip
    match as, kws, hm with
    | [], _, hm => exact absurd hm (by simp [mE])
    | [_], _, hm => exact absurd hm (by simp [mE])
    | _ :: _ :: _ :: _, _, hm => exact absurd hm (by simp [mE])
    | [l, y], _ :: _, hm => exact absurd hm (by cases y <;> simp [mE])
    | [l, y], [], hm =>
      cases y <;> first | (exfalso; revert hm; simp [mE]; done) | skip
      simp only [mE, Bool.and_eq_true] at hm
      obtain ⟨⟨⟨⟨h1, h2⟩, h3⟩, h4⟩, h5⟩ := hm
      cases isN_eq h1
      cases isN_eq h3
      have hb : bootBuiltins (sN ty.nm) = some (.type ty.nm) := by cases ty <;> decide +kernel
      refine ⟨fun pins s σ H Q I h => (pe_callB call_isi (glb_gl h2) (hX.blt "isinstance" (by decide)) (by decide +kernel) (pa_cons (sndE a hX tk h5) (pa_cons (pe_bltn (v := .ty ty.nm) (glb_gl h4) (hX.blt _ (ty_mem ty)) hb rfl (by cases ty <;> decide +kernel) (by cases ty <;> decide +kernel)) pa_nil) (star_of (mE_noStar h5)))
        (by decide +kernel) (by decide +kernel) (star_of (mE_noStar h5)) rfl).run pins s σ H Q I ?_⟩
      obtain ⟨ev, Z, A, R, h⟩ := h
      simp only [evE] at h
      refine semE_mono (sub1 R h) fun x H1 ⟨r, e1, Z1, A1, s1, R1, q1, h1⟩ => ?_
      split at h1
      · rename_i d hd
        split at h1
        · rename_i b hb
          obtain ⟨t, g1, g2⟩ := isi_ok R1.sub (R1.rdv q1 hd) hb
          rw [hX.K]
          exact ⟨x, .ty ty.nm, t, .type ty.nm, b, rfl, .ty _, g1, g2, fin_v R1 h1 (.bl _)⟩
        · exact h1.elim
      · exact h1.elim
  | .mth1 m i e, w, k, N, fb, X, py, hX, tk, hm => by
    cases py <;> first | (exfalso; revert hm; simp [mE]; done) | skip
    rename_i fn as kws pos
    cases fn <;> first | (exfalso; revert hm; simp [mE]; done) | skip
    rename_i o n apos
    cases o <;> first | (exfalso; revert hm; simp [mE]; done) | skip
    match as, kws, hm with
    | [], _, hm => exact absurd hm (by simp [mE])
    | _ :: _ :: _, _, hm => exact absurd hm (by simp [mE])
    | [y], _ :: _, hm => exact absurd hm (by simp [mE])
    | [y], [], hm =>
      simp only [mE, Bool.and_eq_true] at hm
      obtain ⟨⟨⟨h1, h2⟩, h3⟩, h4⟩ := hm
      cases isN_eq h2
      obtain ⟨id, r, g1, g2, g3, g4⟩ := mth_ok (X := X) hX.K m
      have st := star_of (env := X.env) (es := []) (mE_noStar h4)
      refine ⟨fun pins s σ H Q I h => (pe_bm PySem.F.plainAttrs_list g1 g2 g3 (rd_slot hX.N h1) (pa_cons (sndE e hX tk h4) pa_nil st) rfl (by rw [st]; rfl) h3 st rfl).run pins s σ H Q I ?_⟩
      obtain ⟨ev, Z, A, R, h⟩ := h
      simp only [evE] at h
      split at h
      · rename_i xs0 h0
        obtain ⟨a, ys0, e0, _, f0, _⟩ := spot R h0
        refine ⟨.ref a, e0, .inl ⟨rfl, ys0, .inl (.inl f0)⟩, semE_mono (sub1 R h) fun y H1 ⟨r1, e1, Z1, A1, s1, R1, q1, h1⟩ => ?_⟩
        split at h1
        · rename_i d e2 hd
          obtain ⟨Z2, A2, s2, R2, rp⟩ := R1.esc q1 hd
          split at h1
          · rename_i xs hxs
            obtain ⟨a', ys, e0', e3, f1, f2, f3, f4⟩ := spot R2 hxs
            rw [e0] at e0'
            cases e0'
            split at h1
            · rename_i d' xs' hmm
              refine g4 R2.sub f1 f2 f3 rp hmm fun z ys' rz hl rs => ?_
              have R3 := f4 (upd H1 a (.lst ys')) ys' xs' (fun b hb => upd_ne hb) upd_same hl rs
              exact h1 _ Z2 A2 s2 R3 z rz
            · exact h1.elim
          · exact h1.elim
        · exact h1.elim
      · exact h.elim
  | .pop0 i, w, k, N, fb, X, py, hX, tk, hm => by
    cases py <;> first | (exfalso; revert hm; simp [mE]; done) | skip
    rename_i fn as kws pos
    cases fn <;> first | (exfalso; revert hm; simp [mE]; done) | skip
    rename_i o n apos
    cases o <;> first | (exfalso; revert hm; simp [mE]; done) | skip
    match as, kws, hm with
    | _ :: _, _, hm => exact absurd hm (by simp [mE])
    | [], _ :: _, hm => exact absurd hm (by simp [mE])
    | [], [], hm =>
      simp only [mE, Bool.and_eq_true] at hm
      obtain ⟨⟨h1, h2⟩, h3⟩ := hm
      cases isN_eq h2
      refine ⟨fun pins s σ H Q I h => (pe_bm0 PySem.F.plainAttrs_list PySem.F.slot_list_pop PySem.F.type_list_pop mt_pop (rd_slot hX.N h1) rfl h3).run pins s σ H Q I ?_⟩
      obtain ⟨ev, Z, A, R, h⟩ := h
      simp only [evE] at h
      split at h
      · rename_i xs hxs
        obtain ⟨a, ys, e0, e3, f1, f2, f3, f4⟩ := spot R hxs
        split at h
        · rename_i d hd
          rw [List.getLast?_eq_getElem?] at hd
          obtain ⟨z, hz, rz⟩ := f3.getD hd
          rw [← f3.length] at hz
          refine ⟨.ref a, e0, .inl ⟨rfl, ys, .inl (.inl f1)⟩, a, ys, z, rfl, rfl, f1, hz, ?_⟩
          have R3 := f4 (upd H a (.lst ys.dropLast)) ys.dropLast xs.dropLast (fun b hb => upd_ne hb) upd_same (by rw [List.length_dropLast]; omega) f3.dropLast
          exact h _ Z A (Same.refl _) R3 z rz
        · exact h.elim
      · exact h.elim
  | .ins i a b, w, k, N, fb, X, py, hX, tk, hm => by
    cases py <;> first | (exfalso; revert hm; simp [mE]; done) | skip
    rename_i fn as kws pos
    cases fn <;> first | (exfalso; revert hm; simp [mE]; done) | skip
    rename_i o n apos
    cases o <;> first | (exfalso; revert hm; simp [mE]; done) | skip
    match as, kws, hm with
    | [], _, hm => exact absurd hm (by simp [mE])
    | [_], _, hm => exact absurd hm (by simp [mE])
    | _ :: _ :: _ :: _, _, hm => exact absurd hm (by simp [mE])
    | [y, z], _ :: _, hm => exact absurd hm (by simp [mE])
    | [y, z], [], hm =>
      simp only [mE, Bool.and_eq_true] at hm
      obtain ⟨⟨⟨⟨h1, h2⟩, h3⟩, h4⟩, h5⟩ := hm
      cases isN_eq h2
      have st1 := star_of (env := X.env) (es := [z]) (mE_noStar h4)
      have st2 := star_of (env := X.env) (es := []) (mE_noStar h5)
      refine ⟨fun pins s σ H Q I h => (pe_bm PySem.F.plainAttrs_list PySem.F.slot_list_insert PySem.F.type_list_insert mt_insert (rd_slot hX.N h1) (pa_cons (sndE a hX tk h4) (pa_cons (sndE b hX tk h5) pa_nil st2) st1) rfl (by rw [st1, st2]; rfl) h3 st1 (by rw [st2]; rfl)).run pins s σ H Q I ?_⟩
      obtain ⟨ev, Z, A, R, h⟩ := h
      simp only [evE] at h
      split at h
      · rename_i xs0 h0
        obtain ⟨ad, ys0, e0, _, f0, _⟩ := spot R h0
        refine ⟨.ref ad, e0, .inl ⟨rfl, ys0, .inl (.inl f0)⟩, semE_mono (sub1 R h) fun v H1 ⟨q, e1, Z1, A1, s1, R1, q1, h1⟩ => semE_mono (sub1 R1 h1) fun u H2 ⟨r, e2, Z2, A2, s2, R2, q2, h2⟩ => ?_⟩
        split at h2
        · rename_i j hj
          rw [rd_stl] at hj
          cases (R2.rdv (q1.later s2) hj).int
          split at h2
          · rename_i d e3 hd
            obtain ⟨Z3, A3, s3, R3, rp⟩ := R2.esc q2 hd
            split at h2
            · rename_i xs hxs
              obtain ⟨a', ys, e0', e3, f1, f2, f3, f4⟩ := spot R3 hxs
              rw [e0] at e0'
              cases e0'
              split at h2
              · rename_i hc
                obtain ⟨c1, c2, c3⟩ := hc
                have hyl := f3.length
                have hle : xs.length < 16777216 := c3
                refine ⟨ad, ys, j, u, rfl, rfl, f1, by rw [sizeLine_eq]; omega, c1, by omega, ?_⟩
                have R4 := f4 (upd H2 ad (.lst (ys.take j.toNat ++ [u] ++ ys.drop j.toNat))) _ _ (fun b hb => upd_ne hb) upd_same (by rw [sizeLine_eq]; simp; omega) (((f3.take j.toNat).append (.cons rp .nil)).append (f3.drop j.toNat))
                exact h2 _ Z3 A3 s3 R4 .non .non
              · exact h2.elim
            · exact h2.elim
          · exact h2.elim
        · exact h2.elim
      · exact h.elim
  | .ixof a b, w, k, N, fb, X, py, hX, tk, hm => by
    cases py <;> first | (exfalso; revert hm; simp [mE]; done) | skip
    rename_i fn as kws pos
    cases fn <;> first | (exfalso; revert hm; simp [mE]; done) | skip
    rename_i o n apos
    match as, kws, hm with
    | [], _, hm => exact absurd hm (by simp [mE])
    | _ :: _ :: _, _, hm => exact absurd hm (by simp [mE])
    | [y], _ :: _, hm => exact absurd hm (by simp [mE])
    | [y], [], hm =>
      simp only [mE, Bool.and_eq_true] at hm
      obtain ⟨⟨⟨⟨h1, h2⟩, h3⟩, h4⟩, h5⟩ := hm
      cases isN_eq h1
      have st := star_of (env := X.env) (es := []) (mE_noStar h5)
      refine ⟨fun pins s σ H Q I h => (pe_bm PySem.F.plainAttrs_list PySem.F.slot_list_index PySem.F.type_list_index (mt_indexD hX.units) (sndE a hX tk h4) (pa_cons (sndE b hX tk h5) pa_nil st) (nsup_base h3) (by rw [st]; rfl) h2 st rfl).run pins s σ H Q I ?_⟩
      obtain ⟨ev, Z, A, R, h⟩ := h
      simp only [evE] at h
      refine semE_mono (sub1 R h) fun x H1 ⟨r, e1, Z1, A1, s1, R1, q1, h1⟩ => ?_
      split at h1
      · rename_i ds0 hd0
        obtain ⟨a0, xs0, rfl, g0, _⟩ := (R1.rdv (r := r) (by cases r <;> exact q1) hd0).list R1.sub
        refine ⟨.inl ⟨rfl, xs0, .inl (.inl g0)⟩, semE_mono (sub1 R1 h1) fun y H2 ⟨q, e2, Z2, A2, s2, R2, q2, h2⟩ => ?_⟩
        split at h2
        · rename_i ds d hd hy
          rw [rd_stl] at hd
          have r1 := R2.rdv (q1.later s2) hd
          have r2 := R2.rdv q2 hy
          split at h2
          · rename_i j hj
            obtain ⟨a1, xs1, e1', g1, g2, g3⟩ := r1.list R2.sub
            cases e1'
            obtain ⟨z, w1, w2, w3, w4, w5⟩ := ixD_ok hj
            have dp1 : Dp w.K H2 (.ref a0) (.list ds) := .lst (.inl (.inl g1)) (g3.dp R2.sub (SeqAt.canLay_of_shaped w1))
            obtain ⟨yv, hyv⟩ : ∃ y', Dp w.K H2 y' d := ⟨_, rdv_dp R2.sub r2 (SeqAt.canLay_of_shaped w2)⟩
            rw [hX.K]
            exact ⟨a0, y, d, ds, j, z, rfl, rfl, dp1, rdv_dp R2.sub r2 (SeqAt.canLay_of_shaped w2), w1, w2, w3, w4, w5, fin_v R2 h2 (.int _)⟩
          · exact h2.elim
        · exact h2.elim
      · exact h1.elim
  | .dlit a b, w, k, N, fb, X, py, hX, tk, hm => by
    cases py <;> first | (exfalso; revert hm; simp [mE]; done) | skip
    simp only [mE] at hm
    split at hm
    · rename_i i y x z h1 h2
      simp only [Bool.and_eq_true, decide_eq_true_eq] at hm
      obtain ⟨h3, rfl⟩ := hm
      obtain ⟨rfl, rfl⟩ := dlC_eq h1
      obtain ⟨_, _, _, _, _, _, _, rfl, rfl⟩ := dlP_eq h2
      exact dlit_ok hX h3
    · cases hm
  | .dg1 a b, w, k, N, fb, X, py, hX, tk, hm => by
    cases py <;> first | (exfalso; revert hm; simp [mE]; done) | skip
    rename_i fn as kws pos
    cases fn <;> first | (exfalso; revert hm; simp [mE]; done) | skip
    rename_i o n apos
    match as, kws, hm with
    | [], _, hm => exact absurd hm (by simp [mE])
    | _ :: _ :: _, _, hm => exact absurd hm (by simp [mE])
    | [y], _ :: _, hm => exact absurd hm (by simp [mE])
    | [y], [], hm =>
      simp only [mE, Bool.and_eq_true] at hm
      obtain ⟨⟨⟨⟨h1, h2⟩, h3⟩, h4⟩, h5⟩ := hm
      cases isN_eq h1
      have st := star_of (env := X.env) (es := []) (mE_noStar h5)
      refine ⟨fun pins s σ H Q I h => (pe_dget1 (by have := hX.units; omega) (sndE a hX tk h4) (sndE b hX tk h5) ⟨nsup_base h3, by rw [st]; rfl, h2, by rw [st]; rfl⟩).run pins s σ H Q I ?_⟩
      obtain ⟨ev, Z, A, R, h⟩ := h
      simp only [evE] at h
      refine semE_mono (sub1 R h) fun x H1 ⟨r, e1, Z1, A1, s1, R1, q1, h1⟩ => ?_
      split at h1
      · rename_i t0 kvs0 hd0
        obtain ⟨a0, rfl, g0⟩ := rdv_isD R1.sub (R1.rdv (r := r) (by cases r <;> exact q1) hd0)
        refine ⟨a0, rfl, g0, semE_mono (sub1 R1 h1) fun y H2 ⟨q, e2, Z2, A2, s2, R2, q2, h2⟩ => ?_⟩
        split at h2
        · rename_i tt kvs kk hd1 hd2
          rw [rd_stl] at hd1
          have r1 := R2.rdv (q1.later s2) hd1
          have r2 := R2.rdv q2 hd2
          split at h2
          · rename_i hok
            obtain ⟨p, o', ep, dg, ho⟩ := dget_of R2.sub r1 r2 hok
            cases ep
            rcases ho with ⟨e, e'⟩ | ⟨v, d', e, e', rp⟩
            · rw [e'] at h2
              exact ⟨o', dg, by rw [e]; exact fin_v R2 h2 .non⟩
            · rw [e'] at h2
              exact ⟨o', dg, by rw [e]; exact fin_v R2 h2 rp⟩
          · exact h2.elim
        · exact h2.elim
      · exact h1.elim
  | .dg2 a b d, w, k, N, fb, X, py, hX, tk, hm => by
    cases py <;> first | (exfalso; revert hm; simp [mE]; done) | skip
    rename_i fn as kws pos
    cases fn <;> first | (exfalso; revert hm; simp [mE]; done) | skip
    rename_i o n apos
    match as, kws, hm with
    | [], _, hm => exact absurd hm (by simp [mE])
    | [_], _, hm => exact absurd hm (by simp [mE])
    | _ :: _ :: _ :: _, _, hm => exact absurd hm (by simp [mE])
    | [y, z], _ :: _, hm => exact absurd hm (by simp [mE])
    | [y, z], [], hm =>
      simp only [mE, Bool.and_eq_true] at hm
      obtain ⟨⟨⟨⟨⟨h1, h2⟩, h3⟩, h4⟩, h5⟩, h6⟩ := hm
      cases isN_eq h1
      have st1 := star_of (env := X.env) (es := [z]) (mE_noStar h5)
      have st2 := star_of (env := X.env) (es := []) (mE_noStar h6)
      refine ⟨fun pins s σ H Q I h => (pe_dget2 (by have := hX.units; omega) (sndE a hX tk h4) (sndE b hX tk h5) (sndE d hX tk h6) ⟨nsup_base h3, by rw [st1, st2]; rfl, h2, by rw [st1, st2]; rfl⟩).run pins s σ H Q I ?_⟩
      obtain ⟨ev, Z, A, R, h⟩ := h
      simp only [evE] at h
      refine semE_mono (sub1 R h) fun x H1 ⟨r, e1, Z1, A1, s1, R1, q1, h1⟩ => ?_
      split at h1
      · rename_i t0 kvs0 hd0
        obtain ⟨a0, rfl, g0⟩ := rdv_isD R1.sub (R1.rdv (r := r) (by cases r <;> exact q1) hd0)
        refine ⟨a0, rfl, g0, semE_mono (sub1 R1 h1) fun y H2 ⟨q, e2, Z2, A2, s2, R2, q2, h2⟩ => semE_mono (sub1 R2 h2) fun z H3 ⟨u, e3, Z3, A3, s3, R3, q3, h3⟩ => ?_⟩
        split at h3
        · rename_i tt kvs kk dx hd1 hd2
          rw [rd_stl] at hd1 hd2
          have r1 := R3.rdv (q1.later (s2.trans s3)) hd1
          have r2 := R3.rdv (q2.later s3) hd2
          split at h3
          · rename_i hok
            obtain ⟨p, o', ep, dg, ho⟩ := dget_of R3.sub r1 r2 hok
            cases ep
            rcases ho with ⟨e, e'⟩ | ⟨v, d', e, e', rp⟩
            · rw [e'] at h3
              exact ⟨o', dg, by rw [e]; exact fin_v R3 h3 q3⟩
            · rw [e'] at h3
              exact ⟨o', dg, by rw [e]; exact fin_v R3 h3 rp⟩
          · exact h3.elim
        · exact h3.elim
      · exact h1.elim
  | .items i, w, k, N, fb, X, py, hX, tk, hm => by
    cases py <;> first | (exfalso; revert hm; simp [mE]; done) | skip
    rename_i fn as kws pos
    cases fn <;> first | (exfalso; revert hm; simp [mE]; done) | skip
    match as, kws, hm with
    | [], _, hm => exact absurd hm (by simp [mE])
    | _ :: _ :: _, _, hm => exact absurd hm (by simp [mE])
    | [y], _ :: _, hm => exact absurd hm (by simp [mE])
    | [y], [], hm =>
      cases y <;> first | (exfalso; revert hm; simp [mE]; done) | skip
      rename_i fn2 as2 kws2 pos2
      cases fn2 <;> first | (exfalso; revert hm; simp [mE]; done) | skip
      rename_i o n apos
      cases o <;> first | (exfalso; revert hm; simp [mE]; done) | skip
      match as2, kws2, hm with
      | _ :: _, _, hm => exact absurd hm (by simp [mE])
      | [], _ :: _, hm => exact absurd hm (by simp [mE])
      | [], [], hm =>
        simp only [mE, Bool.and_eq_true] at hm
        obtain ⟨⟨⟨⟨h1, h2⟩, h3⟩, h4⟩, h5⟩ := hm
        cases isN_eq h1
        cases isN_eq h4
        refine ⟨fun pins s σ H Q I h => (LiI.pe_listItems hX.calm (rd_slot hX.N h3) (glb_gl h2) (hX.blt "list" (by decide)) (by decide +kernel) rfl h5 rfl).run pins s σ H Q I ?_⟩
        obtain ⟨ev, Z, A, R, h⟩ := h
        simp only [evE] at h
        split at h
        · rename_i kvs hs
          obtain ⟨a0, ea, oc⟩ := R.sl i _ hs
          obtain ⟨_, ks, g1, g2, g3⟩ := oc
          refine ⟨.ref a0, ea, a0, ks, rfl, g1, fun H' p ts k1 hp ht hpt hl hts => ?_⟩
          exact items_give R rfl rfl h g2 g3 k1 hp ht hpt hl hts
        · exact h.elim
  | .strI a, w, k, N, fb, X, py, hX, tk, hm => by
    cases py <;> first | (exfalso; revert hm; simp [mE]; done) | skip
    rename_i fn as kws pos
    cases fn <;> first | (exfalso; revert hm; simp [mE]; done) | skip
    match as, kws, hm with
    | [], _, hm => exact absurd hm (by simp [mE])
    | _ :: _ :: _, _, hm => exact absurd hm (by simp [mE])
    | [y], _ :: _, hm => exact absurd hm (by simp [mE])
    | [y], [], hm =>
      simp only [mE, Bool.and_eq_true] at hm
      obtain ⟨⟨h1, h2⟩, h3⟩ := hm
      cases isN_eq h1
      refine ⟨fun pins s σ H Q I h => (pe_callTy call_str_int (glb_gl h2) (hX.blt "str" (by decide)) (by decide +kernel) (pa_cons (sndE a hX tk h3) pa_nil (star_of (mE_noStar h3))) (by decide +kernel) (by decide +kernel) (star_of (mE_noStar h3)) rfl).run pins s σ H Q I ?_⟩
      obtain ⟨ev, Z, A, R, h⟩ := h
      simp only [evE] at h
      refine semE_mono (sub1 R h) fun x H1 ⟨r, e1, Z1, A1, s1, R1, q1, h1⟩ => ?_
      split at h1
      · rename_i j hd
        cases (R1.rdv q1 hd).int
        split at h1
        · rename_i hl
          exact ⟨j, rfl, hl, fin_v R1 h1 (.str _)⟩
        · exact h1.elim
      · exact h1.elim
  | .srtk x a, w, k, N, fb, X, py, hX, tk, hm => by
    cases py <;> first | (exfalso; revert hm; simp [mE]; done) | skip
    rename_i fn as kws pos
    obtain ⟨p, l, ps, body, scope, lp, kp, rfl, rfl, rfl, h1, h2, h3, h4, h5, h6, h7⟩ := srtk_eq hm
    obtain ⟨P, c, l1, l2, l3, l4, l5⟩ := hX.lam x h2
    refine ⟨fun pins s σ H Q I h => (pe_srtL (ca := w.c.ca) (sndE a hX tk h6) (mE_noStar h6) (glb_gl h1) (hX.blt "sorted" (by decide)) hX.units (by have := hX.room.dp; omega) h3 h4 h5 l1 l2 l3 l4 l5).run pins s σ H Q I ?_⟩
    obtain ⟨ev, Z, A, R, h⟩ := h
    simp only [evE] at h
    refine semE_mono (sub1 R h) fun v H1 ⟨r, e1, Z1, A1, s1, R1, q1, h1⟩ => ?_
    split at h1
    · rename_i ds hd
      split at h1
      · rename_i hs
        obtain ⟨l0, ys, rfl, g1, g2, g3⟩ := (R1.rdv q1 hd).list R1.sub
        rw [hX.K]
        refine ⟨l0, ys, Z1, ds, rfl, .inl (.inl g1), R1.sub, R1.nz, g3, hs, R1.tb, fun H2 zs p' kN tk' tb2 r1 r2 r3 => ?_⟩
        have R2 : RS w.K w.c σ H2 Z1 e1 A1 := R1.extN (Same.refl _) (fun b o e => kN b o (R1.sub b o e) fun ps y => R1.nz b ps (by rw [e, y])) (fun _ _ e => .inl e) (fun _ _ e => e) kN tk' tb2
        have R3 : RS w.K w.c σ (upd H2 p' (.lst zs)) Z1 e1 A1 := R2.fresh r3
        exact h1 _ Z1 A1 (Same.refl _) R3 (.ref p') ⟨p', [p'], rfl, ⟨rfl, zs, upd_same, r2, r1⟩, by simp, fun b hb => by
          cases List.mem_singleton.mp hb
          exact R2.notin r3⟩
      · exact h1.elim
    · exact h1.elim
  | .lc own tg tup it cd e, w, k, N, fb, X, py, hX, tk, hm => by
    cases py <;> first | (exfalso; revert hm; simp [mE]; done) | skip
    rename_i elt gens scope pos
    match gens, hm with
    | [], hm => exact absurd hm (by simp [mE])
    | _ :: _ :: _, hm => exact absurd hm (by simp [mE])
    | [⟨t, iter, ifs, z⟩], hm =>
      simp only [mE, Bool.and_eq_true, decide_eq_true_eq] at hm
      obtain ⟨⟨⟨⟨⟨⟨rfl, h1⟩, h2⟩, h3⟩, h4⟩, h5⟩, h6⟩ := hm
      have ho : ∀ i ∈ tg, i ∈ own := by simpa using h6
      refine ⟨fun pins s σ H Q I h => (pe_lc (own := ownP N own) (g := gTg w.K tup tg) (tt := anyC w cd) (te := anyE w e) hX.calm hX.nd (sndIt it hX tk h3) (blkOk_by (by rw [hX.N]; exact h1)) (fun s' H' C cl fp => ?_) (fun s' H' C cl fp => ?_) (fun s' H' C cl fp => ?_) (fold_of (mIt_noStar h3))).run pins s σ H Q I ?_⟩
      · rw [← hX.K]
        exact sndTg (X := X.blk s' H' scope (compEnvC scope cl C X.env) fp) (fb := blkFb scope) hX.N hX.nd hX.calm (fun _ z => z) h2
      · exact ⟨fun pins s σ H Q I q => let ⟨c', hc', q⟩ := q; (sndC cd (X := X.blk s' H' scope (compEnvC scope cl C X.env) fp) (hX.blk c' hc') takesF h4).run pins s σ H Q I q⟩
      · exact ⟨fun pins s σ H Q I q => let ⟨c', hc', q⟩ := q; (sndE e (X := X.blk s' H' scope (compEnvC scope cl C X.env) fp) (hX.blk c' hc') takesF h5).run pins s σ H Q I q⟩
      · obtain ⟨ev, Z, A, R, h⟩ := h
        simp only [evE] at h
        rw [ownP_snd]
        refine ⟨ev, Z, A, R, h.bnd.imp fun ds e1 H1 Z1 A1 s1 R1 q J wk => ?_⟩
        split at q
        · rename_i evs hw
          split at q
          · rename_i xs e2 hl
            exact lc_turns ho (wk.f _) R1 hw hl q
          · exact q.elim
        · exact q.elim
  | .dc kt own tg tup it cd kk vv, w, k, N, fb, X, py, hX, tk, hm => by
    cases py <;> first | (exfalso; revert hm; simp [mE]; done) | skip
    rename_i kx vx gens scope pos
    match gens, hm with
    | [], hm => exact absurd hm (by simp [mE])
    | _ :: _ :: _, hm => exact absurd hm (by simp [mE])
    | [⟨t, iter, ifs, z⟩], hm =>
      simp only [mE, Bool.and_eq_true, decide_eq_true_eq] at hm
      obtain ⟨⟨⟨⟨⟨⟨rfl, h1⟩, h2⟩, h3⟩, h4⟩, h5, h5'⟩, h6⟩ := hm
      have ho : ∀ i ∈ tg, i ∈ own := by simpa using h6
      refine ⟨fun pins s σ H Q I h => (pe_dcc (t := kt) (own := ownP N own) (g := gTg w.K tup tg) (tt := anyC w cd) (tk := anyE w kk) (tv := anyE w vv) (by have := hX.units; omega) hX.calm hX.nd (sndIt it hX tk h3) (blkOk_by (by rw [hX.N]; exact h1)) (fun s' H' C cl fp => ?_) (fun s' H' C cl fp => ?_) (fun s' H' C cl fp => ?_) (fun s' H' C cl fp => ?_) (fold_of (mIt_noStar h3))).run pins s σ H Q I ?_⟩
      · rw [← hX.K]
        exact sndTg (X := X.blk s' H' scope (compEnvC scope cl C X.env) fp) (fb := blkFb scope) hX.N hX.nd hX.calm (fun _ z => z) h2
      · exact ⟨fun pins s σ H Q I q => let ⟨c', hc', q⟩ := q; (sndC cd (X := X.blk s' H' scope (compEnvC scope cl C X.env) fp) (hX.blk c' hc') takesF h4).run pins s σ H Q I q⟩
      · exact ⟨fun pins s σ H Q I q => let ⟨c', hc', q⟩ := q; (sndE kk (X := X.blk s' H' scope (compEnvC scope cl C X.env) fp) (hX.blk c' hc') takesF h5).run pins s σ H Q I q⟩
      · exact ⟨fun pins s σ H Q I q => let ⟨c', hc', q⟩ := q; (sndE vv (X := X.blk s' H' scope (compEnvC scope cl C X.env) fp) (hX.blk c' hc') takesF h5').run pins s σ H Q I q⟩
      · obtain ⟨ev, Z, A, R, h⟩ := h
        simp only [evE] at h
        rw [ownP_snd]
        refine ⟨ev, Z, A, R, h.bnd.imp fun ds e1 H1 Z1 A1 s1 R1 q J wk => ?_⟩
        split at q
        · rename_i evs hw
          split at q
          · rename_i xs e2 hl
            exact dc_turns ho wk R1 hw hl q
          · exact q.elim
        · exact q.elim
  | .dck kt own tg tup i cd kk vv, w, k, N, fb, X, py, hX, tk, hm => by
    cases py <;> first | (exfalso; revert hm; simp [mE]; done) | skip
    rename_i kx vx gens scope pos
    match gens, hm with
    | [], hm => exact absurd hm (by simp [mE])
    | _ :: _ :: _, hm => exact absurd hm (by simp [mE])
    | [⟨t, iter, ifs, z⟩], hm =>
      cases iter <;> first | (exfalso; revert hm; simp [mE]; done) | skip
      rename_i x xp
      simp only [mE, Bool.and_eq_true, decide_eq_true_eq] at hm
      obtain ⟨⟨⟨⟨⟨⟨rfl, h1⟩, h2⟩, h3⟩, h4⟩, h5, h5'⟩, h6⟩ := hm
      have ho : ∀ i ∈ tg, i ∈ own := by simpa using h6
      have body : PE X (.DictComp kx vx [⟨t, .Name x xp, ifs, 0⟩] scope pos) (tDcc kt (iKeys (tVar i)) (gTg w.K tup tg) (anyC w cd) (anyE w kk) (anyE w vv) ((ownP N own).map (·.2))) := by
        refine pe_dcc (by have := hX.units; omega) hX.calm hX.nd (pi_keys (rd_slot hX.N h3)) (blkOk_by (by rw [hX.N]; exact h1)) (fun s' H' C cl fp => ?_) (fun s' H' C cl fp => ?_) (fun s' H' C cl fp => ?_) (fun s' H' C cl fp => ?_) (fold_of rfl)
        · rw [← hX.K]
          exact sndTg (X := X.blk s' H' scope (compEnvC scope cl C X.env) fp) (fb := blkFb scope) hX.N hX.nd hX.calm (fun _ z => z) h2
        · exact ⟨fun pins s σ H Q I q => let ⟨c', hc', q⟩ := q; (sndC cd (X := X.blk s' H' scope (compEnvC scope cl C X.env) fp) (hX.blk c' hc') takesF h4).run pins s σ H Q I q⟩
        · exact ⟨fun pins s σ H Q I q => let ⟨c', hc', q⟩ := q; (sndE kk (X := X.blk s' H' scope (compEnvC scope cl C X.env) fp) (hX.blk c' hc') takesF h5).run pins s σ H Q I q⟩
        · exact ⟨fun pins s σ H Q I q => let ⟨c', hc', q⟩ := q; (sndE vv (X := X.blk s' H' scope (compEnvC scope cl C X.env) fp) (hX.blk c' hc') takesF h5').run pins s σ H Q I q⟩
      rw [ownP_snd] at body
      refine ⟨fun pins s σ H Q I h => ?_⟩
      obtain ⟨ev, Z, A, R, h⟩ := h
      rcases dck_turns ho R h with q | q
      · exact body.run pins s σ H Q I q
      · exact (pe_lock body).run pins s σ H Q I q
  | .lco own tg tup i cd e, w, k, N, fb, X, py, hX, tk, hm => by
    cases py <;> first | (exfalso; revert hm; simp [mE]; done) | skip
    rename_i elt gens scope pos
    match gens, hm with
    | [], hm => exact absurd hm (by simp [mE])
    | _ :: _ :: _, hm => exact absurd hm (by simp [mE])
    | [⟨t, iter, ifs, z⟩], hm =>
      cases iter <;> first | (exfalso; revert hm; simp [mE]; done) | skip
      rename_i x xp
      simp only [mE, Bool.and_eq_true, decide_eq_true_eq] at hm
      obtain ⟨⟨⟨⟨⟨⟨rfl, h1⟩, h2⟩, h3⟩, h4⟩, h5⟩, h6⟩ := hm
      have ho : ∀ i ∈ tg, i ∈ own := by simpa using h6
      refine ⟨fun pins s σ H Q I h => (pe_lc (own := ownP N own) (g := gTg w.K tup tg) (tt := anyC w cd) (te := anyE w e) hX.calm hX.nd (pi_seq (rd_slot hX.N h3)) (blkOk_by (by rw [hX.N]; exact h1)) (fun s' H' C cl fp => ?_) (fun s' H' C cl fp => ?_) (fun s' H' C cl fp => ?_) (fold_of rfl)).run pins s σ H Q I ?_⟩
      · rw [← hX.K]
        exact sndTg (X := X.blk s' H' scope (compEnvC scope cl C X.env) fp) (fb := blkFb scope) hX.N hX.nd hX.calm (fun _ z => z) h2
      · exact ⟨fun pins s σ H Q I q => let ⟨c', hc', q⟩ := q; (sndC cd (X := X.blk s' H' scope (compEnvC scope cl C X.env) fp) (hX.blk c' hc') takesF h4).run pins s σ H Q I q⟩
      · exact ⟨fun pins s σ H Q I q => let ⟨c', hc', q⟩ := q; (sndE e (X := X.blk s' H' scope (compEnvC scope cl C X.env) fp) (hX.blk c' hc') takesF h5).run pins s σ H Q I q⟩
      · obtain ⟨ev, Z, A, R, h⟩ := h
        simp only [evE] at h
        rw [ownP_snd]
        split at h
        · rename_i ds hs
          split at h
          · rename_i evs hw
            split at h
            · rename_i xs e2 hl
              split at h
              · rename_i he
                rw [hX.K]
                exact lco_turns ho R hs hw hl he h
              · exact h.elim
            · exact h.elim
          · exact h.elim
        · exact h.elim
  | .lc2 own tg tup it cd e, w, k, N, fb, X, py, hX, tk, hm => by
    cases py <;> first | (exfalso; revert hm; simp [mE]; done) | skip
    rename_i elt gens scope pos
    match gens, hm with
    | [], hm => exact absurd hm (by simp [mE])
    | _ :: _ :: _, hm => exact absurd hm (by simp [mE])
    | [⟨t, iter, ifs, z⟩], hm =>
      simp only [mE, Bool.and_eq_true, decide_eq_true_eq] at hm
      obtain ⟨⟨⟨⟨⟨⟨rfl, h1⟩, h2⟩, h3⟩, h4⟩, h5⟩, h6⟩ := hm
      have ho : ∀ i ∈ tg, i ∈ own := by simpa using h6
      have hi : ifs = [] := by
        cases cd <;> cases ifs <;> first | rfl | (simp at h4)
      subst hi
      refine ⟨fun pins s σ H Q I h => (pe_lc (own := ownP N own) (g := gTg w.K tup tg) (tt := anyC w .no) (te := anyE w e) hX.calm hX.nd (sndIt it hX tk h3) (blkOk_by (by rw [hX.N]; exact h1)) (fun s' H' C cl fp => ?_) (fun s' H' C cl fp => ?_) (fun s' H' C cl fp => ?_) (fold_of (mIt_noStar h3))).run pins s σ H Q I ?_⟩
      · rw [← hX.K]
        exact sndTg (X := X.blk s' H' scope (compEnvC scope cl C X.env) fp) (fb := blkFb scope) hX.N hX.nd hX.calm (fun _ z => z) h2
      · refine ⟨fun pins s σ H Q I q => pts_nil.run pins s σ H Q I ?_⟩
        obtain ⟨c', _, ev', Z', A', R', q⟩ := q
        exact q H Z' A' (Same.refl _) R'
      · exact ⟨fun pins s σ H Q I q => let ⟨c', hc', q⟩ := q; (sndE e (X := X.blk s' H' scope (compEnvC scope cl C X.env) fp) (hX.blk c' hc') takesF h5).run pins s σ H Q I q⟩
      · obtain ⟨ev, Z, A, R, h⟩ := h
        simp only [evE] at h
        rw [ownP_snd]
        refine ⟨ev, Z, A, R, h.bnd.imp fun ds e1 H1 Z1 A1 s1 R1 q J wk => ?_⟩
        split at q
        · rename_i evs hw
          split at q
          · rename_i xs e2 hl
            exact lc2_turns ho wk R1 hw hl q
          · exact q.elim
        · exact q.elim
termination_by e => sizeOf e
decreasing_by all_goals (simp_wf; try omega)
theorem sndT : ∀ (e : T) {w : Wd} {k : Nat} {N : List Str} {fb : Str → Bool} {X : Cx} {py : Expr}, XOk w k N fb X → Takes X w.W → mT N w.ren e X.env.scope py = true → PT X py (semT w e)
  | .val (.cmp o a b), w, k, N, fb, X, py, hX, tk, hm => by
    cases py <;> first | (exfalso; revert hm; simp [mT,mE]; done) | skip
    rename_i l ops rs pos
    match ops, rs, hm with
    | [p], [r], hm =>
      simp only [mT, mE, Bool.and_eq_true, decide_eq_true_eq] at hm
      obtain ⟨_, ⟨rfl, ha⟩, hb⟩ := hm
      refine ⟨fun pins s σ H Q I h => (pt_cmpR (cop_ok hX.units o) (sndE a hX tk ha) (sndE b hX tk hb) (mark_of (mE_noStar hb))).run pins s σ H Q I ?_⟩
      obtain ⟨ev, Z, A, R, h⟩ := h
      simp only [evT] at h
      have h' := h.bnd
      clear h
      simp only [evE] at h'
      refine semE_mono (sub1 R h') fun x H1 ⟨r, e1, Z1, A1, s1, R1, q1, h1⟩ => semE_mono (sub1 R1 h1) fun y H2 ⟨q, e2, Z2, A2, s2, R2, q2, h2⟩ => ?_
      split at h2
      · rename_i d1 d2 hd1 hd2
        rw [rd_stl] at hd1
        rw [hX.K]
        split at h2
        · rename_i res hb
          refine ⟨Z2, d1, d2, res, R2.sub, R2.rdv (q1.later s2) hd1, R2.rdv q2 hd2, hb, res, rfl, ?_⟩
          exact h2 H2 Z2 A2 (Same.refl _) R2 H2 Z2 A2 (Same.refl _) R2
        · exact h2.elim
      · exact h2.elim
    | [], _, hm => exact absurd hm (by simp [mT,mE])
    | _ :: _ :: _, _, hm => exact absurd hm (by simp [mT,mE])
    | [_], [], hm => exact absurd hm (by simp [mT,mE])
    | [_], _ :: _ :: _, hm => exact absurd hm (by simp [mT,mE])
  | .val (.chn o p a b d), w, k, N, fb, X, py, hX, tk, hm => by
    cases py <;> first | (exfalso; revert hm; simp [mT,mE]; done) | skip
    rename_i l ops rs pos
    match ops, rs, hm with
    | [o', p'], [m, r], hm =>
      simp only [mT, mE, Bool.and_eq_true, decide_eq_true_eq] at hm
      obtain ⟨_, ⟨⟨⟨rfl, rfl⟩, ha⟩, hb⟩, hd⟩ := hm
      refine ⟨fun pins s σ H Q I h => (pt_chain (cop_ok hX.units o) (cop_ok hX.units p) (sndE a hX tk ha) (sndE b hX tk hb) (sndE d hX tk hd) (mark_of (mE_noStar hd))).run pins s σ H Q I ?_⟩
      obtain ⟨ev, Z, A, R, h⟩ := h
      simp only [evT] at h
      have h' := h.bnd
      clear h
      simp only [evE] at h'
      refine semE_mono (sub1 R h') fun x H1 ⟨r, e1, Z1, A1, s1, R1, q1, h1⟩ => semE_mono (sub1 R1 h1) fun y H2 ⟨q, e2, Z2, A2, s2, R2, q2, h2⟩ => ?_
      split at h2
      · rename_i d1 d2 hd1 hd2
        rw [rd_stl] at hd1 hd2
        rw [hX.K]
        split at h2
        · rename_i hb
          refine ⟨Z2, d1, d2, true, R2.sub, R2.rdv (q1.later s2) hd1, R2.rdv q2 hd2, hb, true, rfl, ?_⟩
          rw [if_pos rfl]
          refine semE_mono (sub1 R2 h2) fun z H3 ⟨u, e3, Z3, A3, s3, R3, q3, h3⟩ => ?_
          split at h3
          · rename_i d3 d4 hd3 hd4
            rw [rd_stl] at hd3
            split at h3
            · rename_i res hb
              refine ⟨Z3, d3, d4, res, R3.sub, R3.rdv (q2.later s3) hd3, R3.rdv q3 hd4, hb, res, rfl, ?_⟩
              exact h3 H3 Z3 A3 (Same.refl _) R3 H3 Z3 A3 (Same.refl _) R3
            · exact h3.elim
          · exact h3.elim
        · rename_i hb
          refine ⟨Z2, d1, d2, false, R2.sub, R2.rdv (q1.later s2) hd1, R2.rdv q2 hd2, hb, false, rfl, ?_⟩
          rw [if_neg (by simp)]
          exact ⟨false, rfl, h2 H2 Z2 A2 (Same.refl _) R2 H2 Z2 A2 (Same.refl _) R2⟩
        · exact h2.elim
      · exact h2.elim
    | [], _, hm => exact absurd hm (by simp [mT,mE])
    | [_], _, hm => exact absurd hm (by simp [mT,mE])
    | _ :: _ :: _ :: _, _, hm => exact absurd hm (by simp [mT,mE])
    | [_, _], [], hm => exact absurd hm (by simp [mT,mE])
    | [_, _], [_], hm => exact absurd hm (by simp [mT,mE])
    | [_, _], _ :: _ :: _ :: _, hm => exact absurd hm (by simp [mT,mE])
  | .val (.var i), w, k, N, fb, X, py, hX, tk, hm => val_plain hX (sndE (.var i) hX tk (by simp only [mT, Bool.and_eq_true] at hm; exact hm.2)) (by simp only [mT, Bool.and_eq_true] at hm; exact hm.1)
  | .val (.non), w, k, N, fb, X, py, hX, tk, hm => val_plain hX (sndE (.non) hX tk (by simp only [mT, Bool.and_eq_true] at hm; exact hm.2)) (by simp only [mT, Bool.and_eq_true] at hm; exact hm.1)
  | .val (.bl b), w, k, N, fb, X, py, hX, tk, hm => val_plain hX (sndE (.bl b) hX tk (by simp only [mT, Bool.and_eq_true] at hm; exact hm.2)) (by simp only [mT, Bool.and_eq_true] at hm; exact hm.1)
  | .val (.int i), w, k, N, fb, X, py, hX, tk, hm => val_plain hX (sndE (.int i) hX tk (by simp only [mT, Bool.and_eq_true] at hm; exact hm.2)) (by simp only [mT, Bool.and_eq_true] at hm; exact hm.1)
  | .val (.str s), w, k, N, fb, X, py, hX, tk, hm => val_plain hX (sndE (.str s) hX tk (by simp only [mT, Bool.and_eq_true] at hm; exact hm.2)) (by simp only [mT, Bool.and_eq_true] at hm; exact hm.1)
  | .val (.glo x), w, k, N, fb, X, py, hX, tk, hm => val_plain hX (sndE (.glo x) hX tk (by simp only [mT, Bool.and_eq_true] at hm; exact hm.2)) (by simp only [mT, Bool.and_eq_true] at hm; exact hm.1)
  | .val (.bin o a b), w, k, N, fb, X, py, hX, tk, hm => val_plain hX (sndE (.bin o a b) hX tk (by simp only [mT, Bool.and_eq_true] at hm; exact hm.2)) (by simp only [mT, Bool.and_eq_true] at hm; exact hm.1)
  | .val (.neg a), w, k, N, fb, X, py, hX, tk, hm => val_plain hX (sndE (.neg a) hX tk (by simp only [mT, Bool.and_eq_true] at hm; exact hm.2)) (by simp only [mT, Bool.and_eq_true] at hm; exact hm.1)
  | .val (.and a b), w, k, N, fb, X, py, hX, tk, hm => val_plain hX (sndE (.and a b) hX tk (by simp only [mT, Bool.and_eq_true] at hm; exact hm.2)) (by simp only [mT, Bool.and_eq_true] at hm; exact hm.1)
  | .val (.or a b), w, k, N, fb, X, py, hX, tk, hm => val_plain hX (sndE (.or a b) hX tk (by simp only [mT, Bool.and_eq_true] at hm; exact hm.2)) (by simp only [mT, Bool.and_eq_true] at hm; exact hm.1)
  | .val (.not a), w, k, N, fb, X, py, hX, tk, hm => val_plain hX (sndE (.not a) hX tk (by simp only [mT, Bool.and_eq_true] at hm; exact hm.2)) (by simp only [mT, Bool.and_eq_true] at hm; exact hm.1)
  | .val (.ife t a b), w, k, N, fb, X, py, hX, tk, hm => val_plain hX (sndE (.ife t a b) hX tk (by simp only [mT, Bool.and_eq_true] at hm; exact hm.2)) (by simp only [mT, Bool.and_eq_true] at hm; exact hm.1)
  | .val (.tup es), w, k, N, fb, X, py, hX, tk, hm => val_plain hX (sndE (.tup es) hX tk (by simp only [mT, Bool.and_eq_true] at hm; exact hm.2)) (by simp only [mT, Bool.and_eq_true] at hm; exact hm.1)
  | .val (.lst es), w, k, N, fb, X, py, hX, tk, hm => val_plain hX (sndE (.lst es) hX tk (by simp only [mT, Bool.and_eq_true] at hm; exact hm.2)) (by simp only [mT, Bool.and_eq_true] at hm; exact hm.1)
  | .val (.dnew t), w, k, N, fb, X, py, hX, tk, hm => val_plain hX (sndE (.dnew t) hX tk (by simp only [mT, Bool.and_eq_true] at hm; exact hm.2)) (by simp only [mT, Bool.and_eq_true] at hm; exact hm.1)
  | .val (.idx a b), w, k, N, fb, X, py, hX, tk, hm => val_plain hX (sndE (.idx a b) hX tk (by simp only [mT, Bool.and_eq_true] at hm; exact hm.2)) (by simp only [mT, Bool.and_eq_true] at hm; exact hm.1)
  | .val (.idx2 i a j), w, k, N, fb, X, py, hX, tk, hm => val_plain hX (sndE (.idx2 i a j) hX tk (by simp only [mT, Bool.and_eq_true] at hm; exact hm.2)) (by simp only [mT, Bool.and_eq_true] at hm; exact hm.1)
  | .val (.slc a lo hi), w, k, N, fb, X, py, hX, tk, hm => val_plain hX (sndE (.slc a lo hi) hX tk (by simp only [mT, Bool.and_eq_true] at hm; exact hm.2)) (by simp only [mT, Bool.and_eq_true] at hm; exact hm.1)
  | .val (.dget a b), w, k, N, fb, X, py, hX, tk, hm => val_plain hX (sndE (.dget a b) hX tk (by simp only [mT, Bool.and_eq_true] at hm; exact hm.2)) (by simp only [mT, Bool.and_eq_true] at hm; exact hm.1)
  | .val (.call f es), w, k, N, fb, X, py, hX, tk, hm => val_plain hX (sndE (.call f es) hX tk (by simp only [mT, Bool.and_eq_true] at hm; exact hm.2)) (by simp only [mT, Bool.and_eq_true] at hm; exact hm.1)
  | .val (.blt f es), w, k, N, fb, X, py, hX, tk, hm => val_plain hX (sndE (.blt f es) hX tk (by simp only [mT, Bool.and_eq_true] at hm; exact hm.2)) (by simp only [mT, Bool.and_eq_true] at hm; exact hm.1)
  | .val (.lrg2 a b), w, k, N, fb, X, py, hX, tk, hm => val_plain hX (sndE (.lrg2 a b) hX tk (by simp only [mT, Bool.and_eq_true] at hm; exact hm.2)) (by simp only [mT, Bool.and_eq_true] at hm; exact hm.1)
  | .val (.lrg a), w, k, N, fb, X, py, hX, tk, hm => val_plain hX (sndE (.lrg a) hX tk (by simp only [mT, Bool.and_eq_true] at hm; exact hm.2)) (by simp only [mT, Bool.and_eq_true] at hm; exact hm.1)
  | .val (.trg a), w, k, N, fb, X, py, hX, tk, hm => val_plain hX (sndE (.trg a) hX tk (by simp only [mT, Bool.and_eq_true] at hm; exact hm.2)) (by simp only [mT, Bool.and_eq_true] at hm; exact hm.1)
  | .val (.rev a), w, k, N, fb, X, py, hX, tk, hm => val_plain hX (sndE (.rev a) hX tk (by simp only [mT, Bool.and_eq_true] at hm; exact hm.2)) (by simp only [mT, Bool.and_eq_true] at hm; exact hm.1)
  | .val (.isi a t), w, k, N, fb, X, py, hX, tk, hm => val_plain hX (sndE (.isi a t) hX tk (by simp only [mT, Bool.and_eq_true] at hm; exact hm.2)) (by simp only [mT, Bool.and_eq_true] at hm; exact hm.1)
  | .val (.mth1 m i e), w, k, N, fb, X, py, hX, tk, hm => val_plain hX (sndE (.mth1 m i e) hX tk (by simp only [mT, Bool.and_eq_true] at hm; exact hm.2)) (by simp only [mT, Bool.and_eq_true] at hm; exact hm.1)
  | .val (.pop0 i), w, k, N, fb, X, py, hX, tk, hm => val_plain hX (sndE (.pop0 i) hX tk (by simp only [mT, Bool.and_eq_true] at hm; exact hm.2)) (by simp only [mT, Bool.and_eq_true] at hm; exact hm.1)
  | .val (.ins i a b), w, k, N, fb, X, py, hX, tk, hm => val_plain hX (sndE (.ins i a b) hX tk (by simp only [mT, Bool.and_eq_true] at hm; exact hm.2)) (by simp only [mT, Bool.and_eq_true] at hm; exact hm.1)
  | .val (.ixof a b), w, k, N, fb, X, py, hX, tk, hm => val_plain hX (sndE (.ixof a b) hX tk (by simp only [mT, Bool.and_eq_true] at hm; exact hm.2)) (by simp only [mT, Bool.and_eq_true] at hm; exact hm.1)
  | .val (.dlit a b), w, k, N, fb, X, py, hX, tk, hm => val_plain hX (sndE (.dlit a b) hX tk (by simp only [mT, Bool.and_eq_true] at hm; exact hm.2)) (by simp only [mT, Bool.and_eq_true] at hm; exact hm.1)
  | .val (.dg1 a b), w, k, N, fb, X, py, hX, tk, hm => val_plain hX (sndE (.dg1 a b) hX tk (by simp only [mT, Bool.and_eq_true] at hm; exact hm.2)) (by simp only [mT, Bool.and_eq_true] at hm; exact hm.1)
  | .val (.dg2 a b d), w, k, N, fb, X, py, hX, tk, hm => val_plain hX (sndE (.dg2 a b d) hX tk (by simp only [mT, Bool.and_eq_true] at hm; exact hm.2)) (by simp only [mT, Bool.and_eq_true] at hm; exact hm.1)
  | .val (.items i), w, k, N, fb, X, py, hX, tk, hm => val_plain hX (sndE (.items i) hX tk (by simp only [mT, Bool.and_eq_true] at hm; exact hm.2)) (by simp only [mT, Bool.and_eq_true] at hm; exact hm.1)
  | .val (.strI a), w, k, N, fb, X, py, hX, tk, hm => val_plain hX (sndE (.strI a) hX tk (by simp only [mT, Bool.and_eq_true] at hm; exact hm.2)) (by simp only [mT, Bool.and_eq_true] at hm; exact hm.1)
  | .val (.srtk x b), w, k, N, fb, X, py, hX, tk, hm => val_plain hX (sndE (.srtk x b) hX tk (by simp only [mT, Bool.and_eq_true] at hm; exact hm.2)) (by simp only [mT, Bool.and_eq_true] at hm; exact hm.1)
  | .val (.lc own tg tup it c e), w, k, N, fb, X, py, hX, tk, hm => val_plain hX (sndE (.lc own tg tup it c e) hX tk (by simp only [mT, Bool.and_eq_true] at hm; exact hm.2)) (by simp only [mT, Bool.and_eq_true] at hm; exact hm.1)
  | .val (.lco own tg tup i c e), w, k, N, fb, X, py, hX, tk, hm => val_plain hX (sndE (.lco own tg tup i c e) hX tk (by simp only [mT, Bool.and_eq_true] at hm; exact hm.2)) (by simp only [mT, Bool.and_eq_true] at hm; exact hm.1)
  | .val (.lc2 own tg tup it c e), w, k, N, fb, X, py, hX, tk, hm => val_plain hX (sndE (.lc2 own tg tup it c e) hX tk (by simp only [mT, Bool.and_eq_true] at hm; exact hm.2)) (by simp only [mT, Bool.and_eq_true] at hm; exact hm.1)
  | .val (.dc kt own tg tup it c kk vv), w, k, N, fb, X, py, hX, tk, hm => val_plain hX (sndE (.dc kt own tg tup it c kk vv) hX tk (by simp only [mT, Bool.and_eq_true] at hm; exact hm.2)) (by simp only [mT, Bool.and_eq_true] at hm; exact hm.1)
  | .val (.dck kt own tg tup i c kk vv), w, k, N, fb, X, py, hX, tk, hm => val_plain hX (sndE (.dck kt own tg tup i c kk vv) hX tk (by simp only [mT, Bool.and_eq_true] at hm; exact hm.2)) (by simp only [mT, Bool.and_eq_true] at hm; exact hm.1)
  | .and a b, w, k, N, fb, X, py, hX, tk, hm => by
    cases py <;> first | (exfalso; revert hm; simp [mT]; done) | skip
    rename_i op vs pos
    cases op <;> first | (exfalso; revert hm; simp [mT]; done) | skip
    match vs, hm with
    | x :: y :: rest, hm =>
      simp only [mT, Bool.and_eq_true] at hm
      have hb : PW X (.BoolOp .And (y :: rest) pos) (semT w b) := by
        cases rest with
        | nil => exact pw_and1 (sndT b hX tk hm.2)
        | cons z rest => exact pw_bool (sndT b hX tk hm.2)
      refine ⟨fun pins s σ H Q I h => (pw_and (sndT a hX tk hm.1) hb).pt.run pins s σ H Q I ?_⟩
      obtain ⟨ev, Z, A, R, h⟩ := h
      simp only [evT] at h
      refine semT_mono (subT R h) fun v H1 ⟨e1, Z1, A1, s1, R1, h1⟩ => ?_
      cases v with
      | true => rw [if_pos rfl]; exact ⟨e1, Z1, A1, R1, h1⟩
      | false => rw [if_neg (by simp)]; exact h1 H1 Z1 A1 (Same.refl _) R1
    | [], hm => exact absurd hm (by simp [mT])
    | [_], hm => exact absurd hm (by simp [mT])
  | .or a b, w, k, N, fb, X, py, hX, tk, hm => by
    cases py <;> first | (exfalso; revert hm; simp [mT]; done) | skip
    rename_i op vs pos
    cases op <;> first | (exfalso; revert hm; simp [mT]; done) | skip
    match vs, hm with
    | x :: y :: rest, hm =>
      simp only [mT, Bool.and_eq_true] at hm
      have hb : PW X (.BoolOp .Or (y :: rest) pos) (semT w b) := by
        cases rest with
        | nil => exact pw_or1 (sndT b hX tk hm.2)
        | cons z rest => exact pw_bool (sndT b hX tk hm.2)
      refine ⟨fun pins s σ H Q I h => (pw_or (sndT a hX tk hm.1) hb).pt.run pins s σ H Q I ?_⟩
      obtain ⟨ev, Z, A, R, h⟩ := h
      simp only [evT] at h
      refine semT_mono (subT R h) fun v H1 ⟨e1, Z1, A1, s1, R1, h1⟩ => ?_
      cases v with
      | true => rw [if_pos rfl]; exact h1 H1 Z1 A1 (Same.refl _) R1
      | false => rw [if_neg (by simp)]; exact ⟨e1, Z1, A1, R1, h1⟩
    | [], hm => exact absurd hm (by simp [mT])
    | [_], hm => exact absurd hm (by simp [mT])
  | .not a, w, k, N, fb, X, py, hX, tk, hm => by
    cases py <;> first | (exfalso; revert hm; simp [mT]; done) | skip
    rename_i op _ _
    cases op <;> first | (exfalso; revert hm; simp [mT]; done) | skip
    simp only [mT] at hm
    refine ⟨fun pins s σ H Q I h => (pt_not (sndT a hX tk hm)).run pins s σ H Q I ?_⟩
    obtain ⟨ev, Z, A, R, h⟩ := h
    simp only [evT] at h
    refine semT_mono (subT R h) fun v H1 ⟨e1, Z1, A1, s1, R1, h1⟩ => ?_
    exact h1 H1 Z1 A1 (Same.refl _) R1
termination_by e => sizeOf e
decreasing_by all_goals (simp_wf; try omega)
theorem sndEs : ∀ (e : Es) {w : Wd} {k : Nat} {N : List Str} {fb : Str → Bool} {X : Cx} {py : List Expr}, XOk w k N fb X → Takes X w.W → mEs N w.ren e X.env.scope py = true → PA X py (semEs w e)
  | .nil, w, k, N, fb, X, py, hX, tk, hm => by
    cases py with
    | cons _ _ => simp [mEs] at hm
    | nil =>
      refine ⟨fun p pins s σ H Q I h => pa_nil.run p pins s σ H Q I ?_⟩
      obtain ⟨ev, Z, A, R, h⟩ := h
      exact h H Z A (Same.refl _) R [] trivial
  | .cons e es, w, k, N, fb, X, py, hX, tk, hm => by
    cases py with
    | nil => simp [mEs] at hm
    | cons y ys =>
      simp only [mEs, Bool.and_eq_true] at hm
      refine ⟨fun p pins s σ H Q I h => (pa_cons (sndE e hX tk hm.1) (sndEs es hX tk hm.2) (star_of (mE_noStar hm.1))).run p pins s σ H Q I ?_⟩
      obtain ⟨ev, Z, A, R, h⟩ := h
      simp only [evEs] at h
      refine semE_mono (sub1 R h) fun x H1 ⟨r, e1, Z1, A1, s1, R1, q1, h1⟩ => semEs_mono (subEs R1 h1) fun xs H2 ⟨rs, e2, Z2, A2, s2, R2, q2, h2⟩ => ?_
      refine h2 H2 Z2 A2 (Same.refl _) R2 (x :: xs) ⟨?_, q2⟩
      rw [stl_stl]
      exact q1.later s2
termination_by e => sizeOf e
decreasing_by all_goals (simp_wf; try omega)
theorem sndO : ∀ (e : O) {w : Wd} {k : Nat} {N : List Str} {fb : Str → Bool} {X : Cx} {py : Option Expr}, XOk w k N fb X → Takes X w.W → mO N w.ren e X.env.scope py = true → PO X py (semO w e)
  | .no, w, k, N, fb, X, py, hX, tk, hm => by
    cases py with
    | some _ => simp [mO] at hm
    | none =>
      refine ⟨fun pins s σ H Q I h => po_none.run pins s σ H Q I ?_⟩
      obtain ⟨ev, Z, A, R, h⟩ := h
      exact h H Z A (Same.refl _) R
  | .so e, w, k, N, fb, X, py, hX, tk, hm => by
    cases py with
    | none => simp [mO] at hm
    | some y =>
      simp only [mO] at hm
      refine ⟨fun pins s σ H Q I h => (po_some (sndE e hX tk hm)).run pins s σ H Q I ?_⟩
      obtain ⟨ev, Z, A, R, h⟩ := h
      simp only [evO] at h
      refine semE_mono (sub1 R h) fun x H1 ⟨r, e1, Z1, A1, s1, R1, q1, h1⟩ => ?_
      split at h1
      · rename_i i hd
        cases (R1.rdv q1 hd).int
        exact ⟨i, rfl, h1 H1 Z1 A1 (Same.refl _) R1⟩
      · exact h1.elim
termination_by e => sizeOf e
decreasing_by all_goals (simp_wf; try omega)
theorem sndC : ∀ (e : C) {w : Wd} {k : Nat} {N : List Str} {fb : Str → Bool} {X : Cx} {py : List Expr}, XOk w k N fb X → Takes X w.W → mC N w.ren e X.env.scope py = true → PTs X py (semC w e)
  | .no, w, k, N, fb, X, py, hX, tk, hm => by
    cases py with
    | cons _ _ => simp [mC] at hm
    | nil =>
      refine ⟨fun pins s σ H Q I h => pts_nil.run pins s σ H Q I ?_⟩
      obtain ⟨ev, Z, A, R, h⟩ := h
      exact h H Z A (Same.refl _) R
  | .so t, w, k, N, fb, X, py, hX, tk, hm => by
    match py, hm with
    | [], hm => exact absurd hm (by simp [mC])
    | _ :: _ :: _, hm => exact absurd hm (by simp [mC])
    | [y], hm =>
      simp only [mC] at hm
      exact ⟨fun pins s σ H Q I h => (pts_one (sndT t hX tk hm)).run pins s σ H Q I h⟩
termination_by e => sizeOf e
decreasing_by all_goals (simp_wf; try omega)
theorem sndIt : ∀ (e : It) {w : Wd} {k : Nat} {N : List Str} {fb : Str → Bool} {X : Cx} {tg py : Expr}, XOk w k N fb X → Takes X w.W → mIt N w.ren e X.env.scope tg py = true → PI X tg py (semIt w e)
  | .seq e, w, k, N, fb, X, tg, py, hX, tk, hm => by
    have hm' : mE N w.ren e X.env.scope py = true := by simpa [mIt] using hm
    refine ⟨fun pins s σ H Q I h => (pi_seq (sndE e hX tk hm')).run pins s σ H Q I ?_⟩
    obtain ⟨ev, Z, A, R, h⟩ := h
    simp only [evIt] at h
    refine semE_mono (sub1 R h) fun x H1 ⟨r, e1, Z1, A1, s1, R1, q1, h1⟩ => ?_
    rw [hX.K]
    split at h1
    · rename_i d e2 hd
      obtain ⟨Z2, A2, s2, R2, rp⟩ := R1.esc q1 hd
      cases hs : seqOf d with
      | none => rw [hs] at h1; exact h1.elim
      | some ds =>
        rw [hs] at h1
        have fin := h1 H1 Z2 A2 s2 R2
        unfold seqOf at hs
        split at hs <;> cases hs
        · cases rp with
          | lst g1 g2 g3 => exact ⟨_, rfl, .inl ⟨⟨_, .inl (.inl (R2.sub _ _ g1))⟩, fin _ (walkOk_list g2 g1 g3)⟩⟩
        · cases rp with
          | tup g1 g2 g3 => exact ⟨_, rfl, .inr ⟨⟨_, .inl (.inl (R2.sub _ _ g1))⟩, fin _ (walkOk_tup g2 (fun Z H a b => .inl (.inl (b _ _ (a _ _ g1)))) g3)⟩⟩
        · cases rp with
          | ktup g1 g2 g3 => exact ⟨_, rfl, .inr ⟨⟨_, sqT_k g1⟩, fin _ (walkOk_tup g2 (fun Z H _ _ => sqT_k g1) g3)⟩⟩
    · exact h1.elim
  | .rng a, w, k, N, fb, X, tg, py, hX, tk, hm => by
    cases py <;> first | (exfalso; revert hm; simp [mIt]; done) | skip
    rename_i fn as kws pos
    cases fn <;> first | (exfalso; revert hm; simp [mIt]; done) | skip
    match as, kws, hm with
    | [], _, hm => exact absurd hm (by simp [mIt])
    | _ :: _ :: _, _, hm => exact absurd hm (by simp [mIt])
    | [y], _ :: _, hm => exact absurd hm (by simp [mIt])
    | [y], [], hm =>
      simp only [mIt, Bool.and_eq_true] at hm
      obtain ⟨⟨h1, h2⟩, h3⟩ := hm
      cases isN_eq h1
      have st := star_of (env := X.env) (es := []) (mE_noStar h3)
      refine ⟨fun pins s σ H Q I h => (pi_range1 (glb_gl h2) (hX.blt "range" (by decide)) (pa_cons (sndE a hX tk h3) pa_nil st) (by rw [st]; rfl)).run pins s σ H Q I ?_⟩
      obtain ⟨ev, Z, A, R, h⟩ := h
      simp only [evIt] at h
      refine semE_mono (sub1 R h) fun x H1 ⟨r, e1, Z1, A1, s1, R1, q1, h1⟩ => ?_
      split at h1
      · rename_i n hd
        cases (R1.rdv q1 hd).int
        split at h1
        · rename_i hn
          have hn2 : n ≤ 16777216 := hn.2
          exact ⟨n, rfl, by omega, by omega, h1 H1 Z1 A1 (Same.refl _) R1 _ (walkOk_range 0 _ (by rw [sizeLine_eq]; omega))⟩
        · exact h1.elim
      · exact h1.elim
  | .rng2 a b, w, k, N, fb, X, tg, py, hX, tk, hm => by
    cases py <;> first | (exfalso; revert hm; simp [mIt]; done) | skip
    rename_i fn as kws pos
    cases fn <;> first | (exfalso; revert hm; simp [mIt]; done) | skip
    match as, kws, hm with
    | [], _, hm => exact absurd hm (by simp [mIt])
    | [_], _, hm => exact absurd hm (by simp [mIt])
    | _ :: _ :: _ :: _, _, hm => exact absurd hm (by simp [mIt])
    | [y, z], _ :: _, hm => exact absurd hm (by simp [mIt])
    | [y, z], [], hm =>
      simp only [mIt, Bool.and_eq_true] at hm
      obtain ⟨⟨⟨h1, h2⟩, h3⟩, h4⟩ := hm
      cases isN_eq h1
      have st := star_of (env := X.env) (es := []) (mE_noStar h4)
      have st2 := star_of (env := X.env) (es := [z]) (mE_noStar h3)
      refine ⟨fun pins s σ H Q I h => (pi_range2 (glb_gl h2) (hX.blt "range" (by decide)) (pa_cons (sndE a hX tk h3) (pa_cons (sndE b hX tk h4) pa_nil st) st2) (by rw [st2, st]; rfl) (by rw [st]; rfl)).run pins s σ H Q I ?_⟩
      obtain ⟨ev, Z, A, R, h⟩ := h
      simp only [evIt] at h
      refine semE_mono (sub1 R h) fun x H1 ⟨r, e1, Z1, A1, s1, R1, q1, h1⟩ => semE_mono (sub1 R1 h1) fun y H2 ⟨q, e2, Z2, A2, s2, R2, q2, h2⟩ => ?_
      split at h2
      · rename_i m n hd1 hd2
        rw [rd_stl] at hd1
        cases (R2.rdv (q1.later s2) hd1).int
        cases (R2.rdv q2 hd2).int
        split at h2
        · rename_i hn
          have hn2 : n - m ≤ 16777216 := hn.2.2.2.2
          exact ⟨m, n, rfl, ⟨by omega, by omega, by omega, by omega⟩, h2 H2 Z2 A2 (Same.refl _) R2 _ (walkOk_range m _ (by rw [sizeLine_eq]; omega))⟩
        · exact h2.elim
      · exact h2.elim
  | .enum e, w, k, N, fb, X, tg, py, hX, tk, hm => by
    cases tg <;> first | (exfalso; revert hm; simp [mIt]; done) | skip
    cases py <;> first | (exfalso; revert hm; simp [mIt]; done) | skip
    rename_i fn as kws pos
    cases fn <;> first | (exfalso; revert hm; simp [mIt]; done) | skip
    match as, kws, hm with
    | [], _, hm => exact absurd hm (by simp [mIt])
    | _ :: _ :: _, _, hm => exact absurd hm (by simp [mIt])
    | [y], _ :: _, hm => exact absurd hm (by simp [mIt])
    | [y], [], hm =>
      simp only [mIt, Bool.and_eq_true] at hm
      obtain ⟨⟨h1, h2⟩, h3⟩ := hm
      cases isN_eq h1
      have st := star_of (env := X.env) (es := []) (mE_noStar h3)
      refine ⟨fun pins s σ H Q I h => (pi_enumA (glb_gl h2) (hX.blt "enumerate" (by decide)) (pa_cons (sndE e hX tk h3) pa_nil st) (by rw [st]; rfl)).run pins s σ H Q I ?_⟩
      obtain ⟨ev, Z, A, R, h⟩ := h
      simp only [evIt] at h
      refine semE_mono (sub1 R h) fun x H1 ⟨r, e1, Z1, A1, s1, R1, q1, h1⟩ => ?_
      rw [hX.K]
      split at h1
      · rename_i d e2 hd
        obtain ⟨Z2, A2, s2, R2, rp⟩ := R1.esc q1 hd
        split at h1
        · have fin := h1 H1 Z2 A2 s2 R2
          cases rp with
          | lst g1 g2 g3 => exact ⟨_, rfl, .inl ⟨⟨_, .inl (.inl (R2.sub _ _ g1))⟩, fin _ (walkOk_enum g2 g1 g3)⟩⟩
        · have fin := h1 H1 Z2 A2 s2 R2
          cases rp with
          | tup g1 g2 g3 => exact ⟨_, rfl, .inr ⟨_, .inl (.inl (R2.sub _ _ g1)), fin _ (walkOk_enumT g2 g1 g3)⟩⟩
        · exact h1.elim
      · exact h1.elim
  | .zip a b, w, k, N, fb, X, tg, py, hX, tk, hm => by
    cases tg <;> first | (exfalso; revert hm; simp [mIt]; done) | skip
    cases py <;> first | (exfalso; revert hm; simp [mIt]; done) | skip
    rename_i fn as kws pos
    cases fn <;> first | (exfalso; revert hm; simp [mIt]; done) | skip
    match as, kws, hm with
    | [], _, hm => exact absurd hm (by simp [mIt])
    | [_], _, hm => exact absurd hm (by simp [mIt])
    | _ :: _ :: _ :: _, _, hm => exact absurd hm (by simp [mIt])
    | [y, z], _ :: _, hm => exact absurd hm (by simp [mIt])
    | [y, z], [], hm =>
      simp only [mIt, Bool.and_eq_true] at hm
      obtain ⟨⟨⟨h1, h2⟩, h3⟩, h4⟩ := hm
      cases isN_eq h1
      have st := star_of (env := X.env) (es := []) (mE_noStar h4)
      have st2 := star_of (env := X.env) (es := [z]) (mE_noStar h3)
      refine ⟨fun pins s σ H Q I h => (pi_zipM (glb_gl h2) (hX.blt "zip" (by decide)) (pa_cons (sndE a hX tk h3) (pa_cons (sndE b hX tk h4) pa_nil st) st2) st2 (by rw [st]; rfl)).run pins s σ H Q I ?_⟩
      obtain ⟨ev, Z, A, R, h⟩ := h
      simp only [evIt] at h
      refine semE_mono (sub1 R h) fun x H1 ⟨r, e1, Z1, A1, s1, R1, q1, h1⟩ => ?_
      rw [hX.K]
      split at h1
      · rename_i d e2 hd
        obtain ⟨Z2, A2, s2, R2, rp⟩ := R1.esc q1 hd
        refine semE_mono (sub1 R2 (Out.same h1 s2)) fun y H2 ⟨q, e3, Z3, A3, s3, R3, q3, h3⟩ => ?_
        split at h3
        · rename_i d2 e4 hd2
          obtain ⟨Z4, A4, s4, R4, rp2⟩ := R3.esc q3 hd2
          have rp := rp.mono (s3.trans s4)
          split at h3
          · have fin := h3 H2 Z4 A4 s4 R4
            cases rp with
            | lst g1 g2 g3 =>
              cases rp2 with
              | lst k1 k2 k3 => exact ⟨true, true, _, _, _, _, rfl, .inl (.inl (R4.sub _ _ g1)), .inl (.inl (R4.sub _ _ k1)), fin _ (walkOk_zipM (k1 := true) (k2 := true) g2 g1 k1 g3 k3)⟩
          · have fin := h3 H2 Z4 A4 s4 R4
            cases rp with
            | tup g1 g2 g3 =>
              cases rp2 with
              | tup k1 k2 k3 => exact ⟨false, false, _, _, _, _, rfl, .inl (.inl (R4.sub _ _ g1)), .inl (.inl (R4.sub _ _ k1)), fin _ (walkOk_zipM (k1 := false) (k2 := false) g2 g1 k1 g3 k3)⟩
          · have fin := h3 H2 Z4 A4 s4 R4
            cases rp with
            | lst g1 g2 g3 =>
              cases rp2 with
              | tup k1 k2 k3 => exact ⟨true, false, _, _, _, _, rfl, .inl (.inl (R4.sub _ _ g1)), .inl (.inl (R4.sub _ _ k1)), fin _ (walkOk_zipM (k1 := true) (k2 := false) g2 g1 k1 g3 k3)⟩
          · have fin := h3 H2 Z4 A4 s4 R4
            cases rp with
            | tup g1 g2 g3 =>
              cases rp2 with
              | lst k1 k2 k3 => exact ⟨false, true, _, _, _, _, rfl, .inl (.inl (R4.sub _ _ g1)), .inl (.inl (R4.sub _ _ k1)), fin _ (walkOk_zipM (k1 := false) (k2 := true) g2 g1 k1 g3 k3)⟩
          · exact h3.elim
        · exact h3.elim
      · exact h1.elim
termination_by e => sizeOf e
decreasing_by all_goals (simp_wf; try omega)
end
end Bide

set_option autoImplicit false
set_option Elab.async false
set_option maxRecDepth 100000
set_option linter.all false
/-! What a statement's evaluation says; the parts of the statements' soundness. -/
namespace Bide
open PySem L2

def OutS (w : Wd) (Z : Hp) (r : R Fl) (De : Ends) : Prop :=
  match r with
  | .ok .nx e => ∀ σ H' Z' A', Same Z Z' → RS w.K w.c σ H' Z' e A' → De.nx σ H'
  | .ok .br e => ∀ σ H' Z' A', Same Z Z' → RS w.K w.c σ H' Z' e A' → De.bk σ H'
  | .ok .ct e => ∀ σ H' Z' A', Same Z Z' → RS w.K w.c σ H' Z' e A' → De.ct σ H'
  | .ok (.rt q) e => ∀ σ H' Z' A' x, Same Z Z' → RS w.K w.c σ H' Z' e A' → RR w.K w.c σ H' Z' e A' x q → De.rt x H'
  | .ex x e => ∀ σ H' Z' A' cls dd, Same Z Z' → RS w.K w.c σ H' Z' e A' → ExOk w.K w.ca w.xf x cls dd H' Z' → w.W cls dd σ H'
  | .bad => False
def semS (w : Wd) (s : S) : TS := fun De σ H => ∃ ev Z A, RS w.K w.c σ H Z ev A ∧ OutS w Z (evS w.cf s ev) De
def semSs (w : Wd) (s : Ss) : TS := fun De σ H => ∃ ev Z A, RS w.K w.c σ H Z ev A ∧ OutS w Z (evSs w.cf s ev) De
section
variable {w : Wd} {α : Type} {σ : L2.St} {H Z Z' : Hp} {ev : Ev} {A : Nat → List Addr} {De : Ends}
theorem OutS.same {r : R Fl} (h : OutS w Z r De) (s : Same Z Z') : OutS w Z' r De := by
  cases r with
  | ok a e =>
    cases a with
    | nx => exact fun σ H' Z'' A' s' => h σ H' Z'' A' (s.trans s')
    | br => exact fun σ H' Z'' A' s' => h σ H' Z'' A' (s.trans s')
    | ct => exact fun σ H' Z'' A' s' => h σ H' Z'' A' (s.trans s')
    | rt q => exact fun σ H' Z'' A' x s' => h σ H' Z'' A' x (s.trans s')
  | ex x e => exact fun σ H' Z'' A' cls dd s' => h σ H' Z'' A' cls dd (s.trans s')
  | bad => exact h
theorem OutS.bnd {r : R α} {f : α → Ev → R Fl} (h : OutS w Z (r.bind f) De) : Out w σ Z r (fun a e _ Z1 _ => OutS w Z1 (f a e) De) := by
  cases r with
  | ok a e => exact fun H' Z'' A' s' _ => OutS.same (r := f a e) h s'
  | ex x e => exact fun H' Z'' A' cls dd s' => h σ H' Z'' A' cls dd s'
  | bad => exact h
/-- a part of a statement: its value as it is -/
theorem stm0 {e : E} {f : RV → Ev → R Fl} (R : RS w.K w.c σ H Z ev A) (h : OutS w Z ((evE w.cf e ev).bind f) De) :
    semE w e σ H fun x H1 => ∃ r e1 Z1 A1, Same Z Z1 ∧ RS w.K w.c σ H1 Z1 e1 A1 ∧ RR w.K w.c σ H1 Z1 e1 A1 x r ∧ OutS w Z1 (f r e1) De :=
  ⟨ev, Z, A, R, h.bnd.imp fun r e1 H1 Z1 A1 s1 R1 q x rr => ⟨r, e1, Z1, A1, s1, R1, rr, q⟩⟩
/-- .. settled -/
theorem stm1 {e : E} {f : RV → Ev → R Fl} (R : RS w.K w.c σ H Z ev A) (h : OutS w Z ((evE w.cf e ev).bind f) De) :
    semE w e σ H fun x H1 => ∃ r e1 Z1 A1, Same Z Z1 ∧ RS w.K w.c σ H1 Z1 e1 A1 ∧ RR w.K w.c σ H1 Z1 e1 A1 x (stl r) ∧ OutS w Z1 (f r e1) De := by
  refine semE_mono (stm0 R h) fun x H1 ⟨r, e1, Z1, A1, s1, R1, rr, q⟩ => ?_
  obtain ⟨Z2, s2, R2, q2⟩ := R1.stl rr
  exact ⟨r, e1, Z2, A1, s1.trans s2, R2, q2, q.same s2⟩
theorem stmT {t : T} {f : Bool → Ev → R Fl} (R : RS w.K w.c σ H Z ev A) (h : OutS w Z ((evT w.cf t ev).bind f) De) :
    semT w t σ H fun b H1 => ∃ e1 Z1 A1, Same Z Z1 ∧ RS w.K w.c σ H1 Z1 e1 A1 ∧ OutS w Z1 (f b e1) De :=
  ⟨ev, Z, A, R, h.bnd.imp fun r e1 H1 Z1 A1 s1 R1 q => ⟨e1, Z1, A1, s1, R1, q⟩⟩
theorem stmEs {t : Es} {f : List RV → Ev → R Fl} (R : RS w.K w.c σ H Z ev A) (h : OutS w Z ((evEs w.cf t ev).bind f) De) :
    semEs w t σ H fun xs H1 => ∃ rs e1 Z1 A1, Same Z Z1 ∧ RS w.K w.c σ H1 Z1 e1 A1 ∧ RRs w.K w.c σ H1 Z1 e1 A1 xs rs ∧ OutS w Z1 (f rs e1) De :=
  ⟨ev, Z, A, R, h.bnd.imp fun r e1 H1 Z1 A1 s1 R1 q xs rr => ⟨r, e1, Z1, A1, s1, R1, rr, q⟩⟩
def Es.n : Es → Nat
  | .nil => 0
  | .cons _ es => es.n + 1
theorem evEs_n {c : Cf} : ∀ (es : Es) {ev e : Ev} {rs : List RV}, evEs c es ev = .ok rs e → rs.length = es.n
  | .nil, ev, e, rs, h => by simp only [evEs, R.ok.injEq] at h; rw [← h.1]; rfl
  | .cons x es, ev, e, rs, h => by
    simp only [evEs] at h
    cases h1 : evE c x ev with
    | ok r e1 =>
      rw [h1] at h
      simp only [R.bind] at h
      cases h2 : evEs c es e1 with
      | ok rs2 e2 =>
        rw [h2] at h
        simp only [R.ok.injEq] at h
        rw [← h.1, List.length_cons, evEs_n es h2]
        rfl
      | ex x e => rw [h2] at h; cases h
      | bad => rw [h2] at h; cases h
    | ex x e => rw [h1] at h; cases h
    | bad => rw [h1] at h; cases h
theorem escs_n : ∀ {rs : List RV} {ev e : Ev} {ds : List D}, escs ev rs = some (ds, e) → ds.length = rs.length
  | [], ev, e, ds, h => by simp only [escs, Option.some.injEq, Prod.mk.injEq] at h; rw [← h.1]; rfl
  | r :: rs, ev, e, ds, h => by
    simp only [escs] at h
    split at h
    · split at h
      · rename_i d ev1 _ ds2 ev2 h2
        simp only [Option.some.injEq, Prod.mk.injEq] at h
        rw [← h.1, List.length_cons, escs_n h2, List.length_cons]
      · cases h
    · cases h
theorem mEs_n {N : List Str} {ren : String → String} {sc : Scope} : ∀ {es : Es} {ys : List Expr}, mEs N ren es sc ys = true → es.n = ys.length
  | .nil, [], _ => rfl
  | .nil, _ :: _, h => by simp [mEs] at h
  | .cons _ _, [], h => by simp [mEs] at h
  | .cons e es, y :: ys, h => by
    simp only [mEs, Bool.and_eq_true] at h
    rw [List.length_cons, ← mEs_n h.2]
    rfl
/-- .. and how many they are -/
theorem stmEsN {t : Es} {f : List RV → Ev → R Fl} (R : RS w.K w.c σ H Z ev A) (h : OutS w Z ((evEs w.cf t ev).bind f) De) :
    semEs w t σ H fun xs H1 => ∃ rs e1 Z1 A1, Same Z Z1 ∧ RS w.K w.c σ H1 Z1 e1 A1 ∧ RRs w.K w.c σ H1 Z1 e1 A1 xs rs ∧ rs.length = t.n ∧ OutS w Z1 (f rs e1) De :=
  ⟨ev, Z, A, R, h.bnd.impE fun r e1 he H1 Z1 A1 s1 R1 q xs rr => ⟨r, e1, Z1, A1, s1, R1, rr, evEs_n t he, q⟩⟩
/-- a name takes a result -/
theorem asg_fin {i : Nat} {x : V} {r : RV} (R : RS w.K w.c σ H Z ev A) (q : RR w.K w.c σ H Z ev A x r) (h : OutS w Z (match putR ev i r with
    | some e2 => .ok .nx e2
    | none => .bad) De) : De.nx (σ.set i (some x)) H := by
  cases r with
  | v d =>
    simp only [putR] at h
    split at h
    · rename_i e2 he
      obtain ⟨A', R'⟩ := R.setV q he
      exact h _ H Z A' (Same.refl _) R'
    · exact h.elim
  | f o =>
    simp only [putR] at h
    split at h
    · rename_i e2 he
      have : ∃ sv, ev[i]? = some sv ∧ ¬ sv.isIo ∧ e2 = ev.set i (.ow o) := by
        unfold setV at he
        split at he
        · cases he
        · cases he
        · rename_i h1 h2
          cases he
          cases hs : ev[i]? with
          | none => exact absurd hs h2
          | some sv => exact ⟨sv, rfl, fun z => by cases sv with
            | io ds => exact h1 ds hs
            | _ => exact z, rfl⟩
      obtain ⟨sv, h1, h2, rfl⟩ := this
      obtain ⟨A', R'⟩ := R.setOw h1 h2 q
      exact h _ H Z A' (Same.refl _) R'
    · exact h.elim
  | s j =>
    simp only [putR] at h
    split at h
    · rename_i e2 he
      split at he
      · rename_i d e1 hd
        obtain ⟨Z1, A1, s1, R1, rp⟩ := R.esc (r := .s j) q hd
        obtain ⟨A', R'⟩ := R1.setV rp he
        exact h _ H Z1 A' s1 R'
      · cases he
    · exact h.elim
theorem setAt_ix {α : Type} {xs ys : List α} {i : Int} {v : α} (h : setAt xs i v = some ys) : ∃ k, ixN xs.length i = some k ∧ k < xs.length ∧ ys = xs.set k v := by
  unfold setAt at h
  split at h
  · rename_i h0
    split at h
    · rename_i h1
      cases h
      refine ⟨i.toNat, ?_, by omega, rfl⟩
      unfold ixN
      rw [if_pos h0, if_pos h1]
    · cases h
  · rename_i h0
    split at h
    · rename_i h1
      cases h
      refine ⟨(i + xs.length).toNat, ?_, by omega, rfl⟩
      unfold ixN
      rw [if_neg h0, if_pos (by omega)]
    · cases h
end
end Bide

set_option autoImplicit false
set_option Elab.async false
set_option maxRecDepth 100000
set_option linter.all false
set_option maxHeartbeats 4000000
/-! The soundness of statements, part by part. -/
namespace Bide
open PySem L2

def fT : Str → Bool := fun _ => true
def swapB (py : Expr) (x : Str) (p : Pos) (sc : Scope) : Bool := match py with
  | .ListComp _ _ s q => (sc.names.lookup x == some .local) && (p.line == q.line) && !(s.names.any fun (n, k) => n == x && (k == .local || k == .cell))
  | .DictComp _ _ _ s q => (sc.names.lookup x == some .local) && (p.line == q.line) && !(s.names.any fun (n, k) => n == x && (k == .local || k == .cell))
  | _ => false
/-- not a set built by a comprehension -/
def lcOnly : Expr → Bool
  | .SetComp _ _ _ _ => false
  | _ => true
def notLc : Expr → Bool
  | .ListComp _ _ _ _ => false
  | .DictComp _ _ _ _ _ => false
  | _ => true
def notTup : Expr → Bool
  | .Tuple _ _ _ => false
  | _ => true
theorem swap_eq {py : Expr} {x : Str} {p : Pos} {l : Nat} {env : Env} (hk : env.scope.kind = .function) (hn : lcOnly py = true) : swapsWith py (some (.Name x p)) l env = pure (swapB py x p env.scope) := by
  have hb : env.blockKind = .function := by unfold Env.blockKind; rw [hk]; rfl
  cases py <;> first | (cases hn; done) | rfl | skip
  all_goals (unfold swapsWith swapB; simp only [hb, Expr.pos]; rfl)
theorem swap_sub {py o i : Expr} {p : Pos} {l : Nat} {env : Env} : swapsWith py (some (.Subscript o i p)) l env = pure false := by cases py <;> rfl
theorem swap_tup {py : Expr} {es : List Expr} {k : Nat} {p : Pos} {l : Nat} {env : Env} : swapsWith py (some (.Tuple es k p)) l env = pure false := by cases py <;> rfl
theorem sole_sub {py o i : Expr} {p : Pos} {l : Nat} {env : Env} : swapsWithSole [.Subscript o i p] py l env = pure false := by cases py <;> rfl
theorem sole_tup {py : Expr} {es : List Expr} {k : Nat} {p : Pos} {l : Nat} {env : Env} : swapsWithSole [.Tuple es k p] py l env = pure false := by cases py <;> rfl
theorem assign_sub {o i : Expr} {p : Pos} {env : Env} (h : noStar i = true) : ∀ v, assign (.Subscript o i p) env v = (do
      let ov ← holding [v] (eval o env)
      let iv ← holding [v, ov] (eval i env)
      standAt p
      holding [v, ov, iv] (setItem ov iv v)
      release [v, ov, iv] []) := by
  intro v
  cases i <;> first | (cases h; done) | rfl
theorem swap_none {py : Expr} {l : Nat} {env : Env} (h1 : lcOnly py = true) (h2 : notLc py = true) : swapsWith py none l env = pure false := by cases py <;> first | (cases h1; done) | (cases h2; done) | rfl
/-- a name among the targets that an inner block captures: the pair is made as usual -/
def cellT (sc : Scope) (es : List Expr) : Bool := es.any fun e => match e with
  | .Name x _ => decide (sc.names.lookup x = some .cell)
  | _ => false
theorem fm_short {α β : Type} {f : α → Option β} : ∀ {l : List α}, (∃ a ∈ l, f a = none) → (l.filterMap f).length < l.length
  | [], ⟨a, h, _⟩ => by cases h
  | x :: l, ⟨a, h, e⟩ => by
    rcases List.mem_cons.mp h with rfl | h
    · rw [List.filterMap_cons_none e]
      have := List.length_filterMap_le f l
      simp only [List.length_cons]
      omega
    · have := fm_short (f := f) ⟨a, h, e⟩
      cases q : f x with
      | none => rw [List.filterMap_cons_none q]; simp only [List.length_cons]; omega
      | some y => rw [List.filterMap_cons_some q]; simp only [List.length_cons]; omega
theorem stores_cell {py : Expr} {es : List Expr} {k : Nat} {p : Pos} {env : Env} (h : cellT env.scope es = true) : swappedStores [.Tuple es k p] py env = pure none := by
  cases py <;> first | rfl | skip
  rename_i vs k2 p2
  unfold swappedStores
  simp only []
  split
  · rfl
  split
  · rfl
  refine (if_pos ?_).trans rfl
  · rw [Bool.or_eq_true]
    left
    rw [bne_iff_ne]
    unfold cellT at h
    rw [List.any_eq_true] at h
    obtain ⟨e, he, h⟩ := h
    refine Nat.ne_of_lt (fm_short ⟨e, he, ?_⟩)
    cases e <;> first | (cases h; done) | skip
    rename_i x pos
    have hx : env.kindOf x = some .cell := by
      unfold Env.kindOf
      simp [of_decide_eq_true h]
    simp [hx]
theorem stores_tup {py : Expr} {es : List Expr} {k : Nat} {p : Pos} {env : Env} (h : notTup py = true) : swappedStores [.Tuple es k p] py env = pure none := by cases py <;> first | (cases h; done) | rfl
theorem stores_sub {py o i : Expr} {p : Pos} {env : Env} : swappedStores [.Subscript o i p] py env = pure none := by cases py <;> rfl
theorem mE_lcOnly {N : List Str} {ren : String → String} {e : E} {sc : Scope} {py : Expr} (h : mE N ren e sc py = true) : lcOnly py = true := by
  cases py <;> first | rfl | (exfalso; revert h; cases e <;> simp [mE])
/-- own exception classes: where they stand, their fields, which is which -/
structure XcOk (K : PySem.W.Frag) (mg : Str → Option Value) (ca : String → Option Addr) (xf : String → List String) : Prop where
  has : ∀ x, xf x ≠ [] → ∃ C, ca x = some C
  mgx : ∀ x C, ca x = some C → mg (sN x) = some (.ref C)
  xfc : ∀ x C, ca x = some C → XfC K C
  nof : ∀ x C, ca x = some C → ∀ f ∈ xf x, PySem.W.findIn K (.ref C) (sN f) = some none
  exm : ∀ x y C D, ca x = some C → ca y = some D → PySem.W.exmOne K (.ref C) (.ref D) = some (subX x y)
  bas : ∀ x, xf x ≠ [] → ∃ C, ca "BideError" = some C
  lef : ∀ x, xf x ≠ [] → x ≠ "ValueError" ∧ x ≠ "BideError"
  isi : ∀ x C, ca x = some C → ExcC K C
  kit : ∀ x y C D, ca x = some C → ca y = some D → PySem.W.kitOne K (.ref C) (.ref D) = some (subX x y)
  kitV : ∀ x C, ca x = some C → PySem.W.kitOne K (.ref C) (.type "ValueError") = some true
theorem subX_leaf {x y : String} (h1 : y ≠ "ValueError") (h2 : y ≠ "BideError") : subX x y = decide (x = y) := by
  unfold subX
  rw [beq_false_of_ne h1, beq_false_of_ne h2]
  by_cases h : x = y
  · subst h; simp
  · rw [beq_false_of_ne h]; simp [h]
theorem XcOk.exmL {K : PySem.W.Frag} {mg : Str → Option Value} {ca : String → Option Addr} {xf : String → List String} (h : XcOk K mg ca xf) {x y : String} {C D : Addr} (hf : xf y ≠ []) (e1 : ca x = some C) (e2 : ca y = some D) : PySem.W.exmOne K (.ref C) (.ref D) = some (decide (x = y)) := by
  rw [h.exm x y C D e1 e2, subX_leaf (h.lef y hf).1 (h.lef y hf).2]
/-- what a body's statements want -/
structure XSt (w : Wd) (k : Nat) (N : List Str) (xs : List String) (X : Cx) : Prop where
  x : XOk w k N fT X
  kind : X.env.scope.kind = .function
  pass : PassesOwn (model X.prog X.w) X.A X.env X.xe
  exs : ∀ n ∈ xs, ∀ (e : Expr) (es : List Expr) (ta : TA) (p pos : Pos), Gl X (sN n) → PA X (e :: es) ta → (starEach (e :: es) X.env = (false, eval e X.env) :: starEach es X.env) → ((backTo pos (starEach es X.env)).any (·.1) = false) → (es.length + 1 = (w.xf n).length) →
    PMk X (.Call (.Name (sN n) p) (e :: es) [] pos) (fun σ H Q => ta σ H fun vs H1 => ∃ Z ds, Same Z H1 ∧ Rps X.K Z vs ds ∧ ds.length = (w.xf n).length ∧ ∀ cls dd H', Same H1 H' → ExOk X.K w.ca w.xf ⟨n, ds⟩ cls dd H' Z → Q cls dd H')
  stk : X.stack = X.env :: X.outer
  frm : X.env.frame = some X.env.locals
  xc : XcOk X.K X.mg (clsOf w.ca) w.xf
section
variable {w : Wd} {k : Nat} {N : List Str} {xs : List String} {X : Cx}
theorem XSt.hf (h : XSt w k N xs X) : ∀ x, fT x = true → X.fn x = true := h.x.fn
/-- a dict comprehension stored in a name -/
theorem setDc_ok {i : Nat} {x : Str} {p spos : Pos} {e : E} {kx vx : Expr} {gens : List Comprehension} {scope : Scope} {pos : Pos} (hS : XSt w k N xs X) (tk : Takes X w.W) (hm : mE N w.ren e X.env.scope (.DictComp kx vx gens scope pos) = true) (hi : N[i]? = some x) (hl : X.env.scope.names.lookup x = some .local)
    (hs : swapsWith (.DictComp kx vx gens scope pos) (some (.Name x p)) spos.line X.env = pure true) : PS X (.Assign [.Name x p] (.DictComp kx vx gens scope pos) spos) (tAsg (semE w e) (gName i)) := by
  have hX := hS.x
  have hi' : X.N[i]? = some x := by rw [hX.N]; exact hi
  cases e <;> first | (exfalso; revert hm; simp [mE]; done) | skip
  · rename_i kt own tg tup it cd kk vv
    match gens, hm with
    | [], hm => exact absurd hm (by simp [mE])
    | _ :: _ :: _, hm => exact absurd hm (by simp [mE])
    | [⟨t, iter, ifs, z⟩], hm =>
      simp only [mE, Bool.and_eq_true, decide_eq_true_eq] at hm
      obtain ⟨⟨⟨⟨⟨⟨rfl, h1⟩, h2⟩, h3⟩, h4⟩, h5, h5'⟩, h6⟩ := hm
      have ho : ∀ i ∈ tg, i ∈ own := by simpa using h6
      refine ⟨fun pins s σ H De I h => (ps_setDcc (t := kt) (own := ownP N own) (g := gTg w.K tup tg) (tt := anyC w cd) (tk := anyE w kk) (tv := anyE w vv) (by have := hX.units; omega) hX.calm hX.nd hi' hl hs (sndIt it hX tk h3) (blkOk_by (by rw [hX.N]; exact h1)) (fun s' H' C cl fp => ?_) (fun s' H' C cl fp => ?_) (fun s' H' C cl fp => ?_) (fun s' H' C cl fp => ?_) (fold_of (mIt_noStar h3))).run pins s σ H De I ?_⟩
      · rw [← hX.K]
        exact sndTg (X := X.blk s' H' scope (compEnvC scope cl C X.env) fp) (fb := blkFb scope) hX.N hX.nd hX.calm (fun _ z => z) h2
      · exact ⟨fun pins s σ H Q I q => let ⟨c', hc', q⟩ := q; (sndC cd (X := X.blk s' H' scope (compEnvC scope cl C X.env) fp) (hX.blk c' hc') takesF h4).run pins s σ H Q I q⟩
      · exact ⟨fun pins s σ H Q I q => let ⟨c', hc', q⟩ := q; (sndE kk (X := X.blk s' H' scope (compEnvC scope cl C X.env) fp) (hX.blk c' hc') takesF h5).run pins s σ H Q I q⟩
      · exact ⟨fun pins s σ H Q I q => let ⟨c', hc', q⟩ := q; (sndE vv (X := X.blk s' H' scope (compEnvC scope cl C X.env) fp) (hX.blk c' hc') takesF h5').run pins s σ H Q I q⟩
      · obtain ⟨ev, Z, A, R, h⟩ := h
        simp only [evE] at h
        rw [ownP_snd]
        refine ⟨ev, Z, A, R, h.bnd.imp fun ds e1 H1 Z1 A1 s1 R1 q J wk => ?_⟩
        split at q
        · rename_i evs hw
          split at q
          · rename_i xs e2 hl
            exact dc_turns ho wk R1 hw hl q
          · exact q.elim
        · exact q.elim
  · rename_i kt own tg tup j cd kk vv
    match gens, hm with
    | [], hm => exact absurd hm (by simp [mE])
    | _ :: _ :: _, hm => exact absurd hm (by simp [mE])
    | [⟨t, iter, ifs, z⟩], hm =>
      cases iter <;> first | (exfalso; revert hm; simp [mE]; done) | skip
      rename_i y yp
      simp only [mE, Bool.and_eq_true, decide_eq_true_eq] at hm
      obtain ⟨⟨⟨⟨⟨⟨rfl, h1⟩, h2⟩, h3⟩, h4⟩, h5, h5'⟩, h6⟩ := hm
      have ho : ∀ i ∈ tg, i ∈ own := by simpa using h6
      have body : PS X (.Assign [.Name x p] (.DictComp kx vx [⟨t, .Name y yp, ifs, 0⟩] scope pos) spos) (tAsg (tDcc kt (iKeys (tVar j)) (gTg w.K tup tg) (anyC w cd) (anyE w kk) (anyE w vv) ((ownP N own).map (·.2))) (gName i)) := by
        refine ps_setDcc (by have := hX.units; omega) hX.calm hX.nd hi' hl hs (pi_keys (rd_slot hX.N h3)) (blkOk_by (by rw [hX.N]; exact h1)) (fun s' H' C cl fp => ?_) (fun s' H' C cl fp => ?_) (fun s' H' C cl fp => ?_) (fun s' H' C cl fp => ?_) (fold_of rfl)
        · rw [← hX.K]
          exact sndTg (X := X.blk s' H' scope (compEnvC scope cl C X.env) fp) (fb := blkFb scope) hX.N hX.nd hX.calm (fun _ z => z) h2
        · exact ⟨fun pins s σ H Q I q => let ⟨c', hc', q⟩ := q; (sndC cd (X := X.blk s' H' scope (compEnvC scope cl C X.env) fp) (hX.blk c' hc') takesF h4).run pins s σ H Q I q⟩
        · exact ⟨fun pins s σ H Q I q => let ⟨c', hc', q⟩ := q; (sndE kk (X := X.blk s' H' scope (compEnvC scope cl C X.env) fp) (hX.blk c' hc') takesF h5).run pins s σ H Q I q⟩
        · exact ⟨fun pins s σ H Q I q => let ⟨c', hc', q⟩ := q; (sndE vv (X := X.blk s' H' scope (compEnvC scope cl C X.env) fp) (hX.blk c' hc') takesF h5').run pins s σ H Q I q⟩
      rw [ownP_snd] at body
      refine ⟨fun pins s σ H De I h => ?_⟩
      obtain ⟨ev, Z, A, R, h⟩ := h
      rcases dck_turns ho R h with q | q
      · exact body.run pins s σ H De I q
      · exact (ps_lock body).run pins s σ H De I q
/-- a comprehension stored in a name -/
theorem setLc_ok {i : Nat} {x : Str} {p spos : Pos} {e : E} {py : Expr} (hS : XSt w k N xs X) (tk : Takes X w.W) (hm : mE N w.ren e X.env.scope py = true) (hi : N[i]? = some x) (hl : X.env.scope.names.lookup x = some .local)
    (hs : swapsWith py (some (.Name x p)) spos.line X.env = pure true) (hc : notLc py = false) : PS X (.Assign [.Name x p] py spos) (tAsg (semE w e) (gName i)) := by
  have hX := hS.x
  have hi' : X.N[i]? = some x := by rw [hX.N]; exact hi
  cases py <;> first | (cases hc; done) | skip
  case DictComp kx vx gens scope pos => exact setDc_ok hS tk hm hi hl hs
  rename_i elt gens scope pos
  cases e <;> first | (exfalso; revert hm; simp [mE]; done) | skip
  · rename_i own tg tup it cd e
    match gens, hm with
    | [], hm => exact absurd hm (by simp [mE])
    | _ :: _ :: _, hm => exact absurd hm (by simp [mE])
    | [⟨t, iter, ifs, z⟩], hm =>
      simp only [mE, Bool.and_eq_true, decide_eq_true_eq] at hm
      obtain ⟨⟨⟨⟨⟨⟨rfl, h1⟩, h2⟩, h3⟩, h4⟩, h5⟩, h6⟩ := hm
      have ho : ∀ i ∈ tg, i ∈ own := by simpa using h6
      refine ⟨fun pins s σ H Q I h => (ps_setLc (own := ownP N own) (g := gTg w.K tup tg) (tt := anyC w cd) (te := anyE w e) hX.calm hX.nd hi' hl hs (sndIt it hX tk h3) (blkOk_by (by rw [hX.N]; exact h1)) (fun s' H' C cl fp => ?_) (fun s' H' C cl fp => ?_) (fun s' H' C cl fp => ?_) (fold_of (mIt_noStar h3))).run pins s σ H Q I ?_⟩
      · rw [← hX.K]
        exact sndTg (X := X.blk s' H' scope (compEnvC scope cl C X.env) fp) (fb := blkFb scope) hX.N hX.nd hX.calm (fun _ z => z) h2
      · exact ⟨fun pins s σ H Q I q => let ⟨c', hc', q⟩ := q; (sndC cd (X := X.blk s' H' scope (compEnvC scope cl C X.env) fp) (hX.blk c' hc') takesF h4).run pins s σ H Q I q⟩
      · exact ⟨fun pins s σ H Q I q => let ⟨c', hc', q⟩ := q; (sndE e (X := X.blk s' H' scope (compEnvC scope cl C X.env) fp) (hX.blk c' hc') takesF h5).run pins s σ H Q I q⟩
      · obtain ⟨ev, Z, A, R, h⟩ := h
        simp only [evE] at h
        rw [ownP_snd]
        refine ⟨ev, Z, A, R, h.bnd.imp fun ds e1 H1 Z1 A1 s1 R1 q J wk => ?_⟩
        split at q
        · rename_i evs hw
          split at q
          · rename_i xs e2 hl
            exact lc_turns ho (wk.f _) R1 hw hl q
          · exact q.elim
        · exact q.elim
  · rename_i own tg tup j cd e
    match gens, hm with
    | [], hm => exact absurd hm (by simp [mE])
    | _ :: _ :: _, hm => exact absurd hm (by simp [mE])
    | [⟨t, iter, ifs, z⟩], hm =>
      cases iter <;> first | (exfalso; revert hm; simp [mE]; done) | skip
      rename_i y yp
      simp only [mE, Bool.and_eq_true, decide_eq_true_eq] at hm
      obtain ⟨⟨⟨⟨⟨⟨rfl, h1⟩, h2⟩, h3⟩, h4⟩, h5⟩, h6⟩ := hm
      have ho : ∀ i ∈ tg, i ∈ own := by simpa using h6
      refine ⟨fun pins s σ H Q I h => (ps_setLc (own := ownP N own) (g := gTg w.K tup tg) (tt := anyC w cd) (te := anyE w e) hX.calm hX.nd hi' hl hs (pi_seq (rd_slot hX.N h3)) (blkOk_by (by rw [hX.N]; exact h1)) (fun s' H' C cl fp => ?_) (fun s' H' C cl fp => ?_) (fun s' H' C cl fp => ?_) (fold_of rfl)).run pins s σ H Q I ?_⟩
      · rw [← hX.K]
        exact sndTg (X := X.blk s' H' scope (compEnvC scope cl C X.env) fp) (fb := blkFb scope) hX.N hX.nd hX.calm (fun _ z => z) h2
      · exact ⟨fun pins s σ H Q I q => let ⟨c', hc', q⟩ := q; (sndC cd (X := X.blk s' H' scope (compEnvC scope cl C X.env) fp) (hX.blk c' hc') takesF h4).run pins s σ H Q I q⟩
      · exact ⟨fun pins s σ H Q I q => let ⟨c', hc', q⟩ := q; (sndE e (X := X.blk s' H' scope (compEnvC scope cl C X.env) fp) (hX.blk c' hc') takesF h5).run pins s σ H Q I q⟩
      · obtain ⟨ev, Z, A, R, h⟩ := h
        simp only [evE] at h
        rw [ownP_snd]
        split at h
        · rename_i ds hs
          split at h
          · rename_i evs hw
            split at h
            · rename_i xs e2 hl
              split at h
              · rename_i he
                rw [hX.K]
                exact lco_turns ho R hs hw hl he h
              · exact h.elim
            · exact h.elim
          · exact h.elim
        · exact h.elim
  · rename_i own tg tup it cd e
    match gens, hm with
    | [], hm => exact absurd hm (by simp [mE])
    | _ :: _ :: _, hm => exact absurd hm (by simp [mE])
    | [⟨t, iter, ifs, z⟩], hm =>
      simp only [mE, Bool.and_eq_true, decide_eq_true_eq] at hm
      obtain ⟨⟨⟨⟨⟨⟨rfl, h1⟩, h2⟩, h3⟩, h4⟩, h5⟩, h6⟩ := hm
      have ho : ∀ i ∈ tg, i ∈ own := by simpa using h6
      have hi : ifs = [] := by
        cases cd <;> cases ifs <;> first | rfl | (simp at h4)
      subst hi
      refine ⟨fun pins s σ H Q I h => (ps_setLc (own := ownP N own) (g := gTg w.K tup tg) (tt := anyC w .no) (te := anyE w e) hX.calm hX.nd hi' hl hs (sndIt it hX tk h3) (blkOk_by (by rw [hX.N]; exact h1)) (fun s' H' C cl fp => ?_) (fun s' H' C cl fp => ?_) (fun s' H' C cl fp => ?_) (fold_of (mIt_noStar h3))).run pins s σ H Q I ?_⟩
      · rw [← hX.K]
        exact sndTg (X := X.blk s' H' scope (compEnvC scope cl C X.env) fp) (fb := blkFb scope) hX.N hX.nd hX.calm (fun _ z => z) h2
      · refine ⟨fun pins s σ H Q I q => pts_nil.run pins s σ H Q I ?_⟩
        obtain ⟨c', _, ev', Z', A', R', q⟩ := q
        exact q H Z' A' (Same.refl _) R'
      · exact ⟨fun pins s σ H Q I q => let ⟨c', hc', q⟩ := q; (sndE e (X := X.blk s' H' scope (compEnvC scope cl C X.env) fp) (hX.blk c' hc') takesF h5).run pins s σ H Q I q⟩
      · obtain ⟨ev, Z, A, R, h⟩ := h
        simp only [evE] at h
        rw [ownP_snd]
        refine ⟨ev, Z, A, R, h.bnd.imp fun ds e1 H1 Z1 A1 s1 R1 q J wk => ?_⟩
        split at q
        · rename_i evs hw
          split at q
          · rename_i xs e2 hl
            exact lc2_turns ho wk R1 hw hl q
          · exact q.elim
        · exact q.elim
end
section
variable {w : Wd} {σ : L2.St} {H Z : Hp} {ev e1 : Ev} {A : Nat → List Addr} {De : Ends}
theorem ret_fin {x : V} {r : RV} (R : RS w.K w.c σ H Z ev A) (q : RR w.K w.c σ H Z ev A x r) (h : OutS w Z (match retR ev r with
    | some (q, e2) => .ok (.rt q) e2
    | none => .bad) De) : De.rt x H := by
  cases r with
  | v d => exact h σ H Z A x (Same.refl _) R q
  | f o => exact h σ H Z A x (Same.refl _) R q
  | s j =>
    simp only [retR] at h
    have hx : σ[j]? = some (some x) := q
    cases hs : ev[j]? with
    | none => simp only [hs] at h; exact h.elim
    | some sv =>
      cases sv with
      | no => simp only [hs] at h; exact h.elim
      | io ds => simp only [hs] at h; exact h.elim
      | sh d =>
        simp only [hs] at h
        obtain ⟨_, v, g1, g2⟩ := R.sl j _ hs
        rw [hx] at g1
        cases g1
        exact h σ H Z A x (Same.refl _) R g2
      | ow o =>
        simp only [hs] at h
        obtain ⟨a, g1, g2⟩ := R.sl j _ hs
        rw [hx] at g1
        cases g1
        refine h _ H Z _ (.ref a) (Same.refl _) (R.setNo hs id) ⟨a, A j, rfl, g2, R.nod j, fun b hb => ⟨R.zo j b hb, R.young hs id hb, ?_, fun i hi => ?_⟩⟩
        · cases hf : w.c.F b with
          | none => rfl
          | some u => exact absurd hb ((R.pf b u hf).2.2 j)
        · by_cases e : i = j
          · subst e; rw [setA_same] at hi; cases hi
          · rw [setA_ne e] at hi
            exact e (R.dis i j b hi hb)
/-- statements, whatever is kept meanwhile; nothing is raised -/
def anySs (w : Wd) (b : Ss) : TS := fun De σ H => ∃ c : En, c.ca = w.c.ca ∧ semSs (w.blk c) b De σ H
theorem OutS.noX {r : R Fl} (h : OutS w Z (Bide.noX r) De) : OutS (w.blk w.c) Z r De := by
  cases r with
  | ok a e => cases a <;> exact h
  | ex x e => exact h.elim
  | bad => exact h.elim
theorem OutS.lock {σ0 : L2.St} {H0 Z1 : Hp} {e0 : Ev} {A1 : Nat → List Addr} {d : Addr} {u u' : HO} (R1 : RS w.K w.c σ0 H0 Z1 e0 A1) (g : Z1 d = some u) (l : Lk u u') {r : R Fl} (h : OutS w Z1 (Bide.noX r) De) :
    OutS (w.blk (w.c.lk d u')) (chg Z1 d u') r ⟨fun σ' H' => H' d = some u' ∧ De.nx σ' (upd H' d u), fun v H' => H' d = some u' ∧ De.rt v (upd H' d u), fun σ' H' => H' d = some u' ∧ De.bk σ' (upd H' d u), fun σ' H' => H' d = some u' ∧ De.ct σ' (upd H' d u)⟩ := by
  cases r with
  | ex x e => exact h.elim
  | bad => exact h.elim
  | ok a e =>
    cases a with
    | nx =>
      intro σ H' Z' A' s R
      obtain ⟨k1, k2, k3, k4⟩ := unlk R1 g l s R
      exact ⟨k1, h _ _ _ A' k2 k3⟩
    | br =>
      intro σ H' Z' A' s R
      obtain ⟨k1, k2, k3, k4⟩ := unlk R1 g l s R
      exact ⟨k1, h _ _ _ A' k2 k3⟩
    | ct =>
      intro σ H' Z' A' s R
      obtain ⟨k1, k2, k3, k4⟩ := unlk R1 g l s R
      exact ⟨k1, h _ _ _ A' k2 k3⟩
    | rt q =>
      intro σ H' Z' A' x s R rr
      obtain ⟨k1, k2, k3, k4⟩ := unlk R1 g l s R
      exact ⟨k1, h _ _ _ A' x k2 k3 (k4 x q rr)⟩
theorem XSt.blk {k : Nat} {N : List Str} {xs : List String} {X : Cx} (h : XSt w k N xs X) (c : En) (hc : c.ca = w.c.ca) : XSt (w.blk c) k N xs X := by
  refine ⟨⟨h.x.K, h.x.N, h.x.calm, h.x.nd, h.x.room, ?_, h.x.gls, h.x.blt, h.x.fn, ?_⟩, h.kind, h.pass, ?_, h.stk, h.frm, ?_⟩
  · intro f F e
    obtain ⟨a, fd, ps, q1, q2, q3, q4⟩ := h.x.fns f F e
    exact ⟨a, fd, ps, q1, q2, q3, by show FnOk _ _ _ _ _ _ _ _ _ _ (spOf _ c.ca _ _); rw [hc]; exact q4⟩
  · intro x e
    obtain ⟨P, d, q1, q2, q3, q4, q5⟩ := h.x.lam x e
    exact ⟨P, d, by show c.ca _ = _; rw [hc]; exact q1, q2, q3, q4, fun y P' z => q5 y P' (by rw [← hc]; exact z)⟩
  · have q := h.exs
    rw [show w.ca = c.ca from hc.symm] at q
    exact q
  · have q := h.xc
    rw [show w.ca = c.ca from hc.symm] at q
    exact q
/-- the turns of a for, nothing raised within -/
theorem for_turnsA {tg : List Nat} {tup : Bool} {f : Ss} {ds : List D} {J : L2.It} {c : En} (hc : c.ca = w.c.ca) (wk : WalkOk w.K J Z ds) (R : RS w.K c σ H Z ev A) (hl : OutS (w.blk c) Z (forL tg tup (evSs w.cf f) ds ev) De) :
    ∃ W : Nat → Nat → L2.St → Hp → Prop, (∃ m, W 0 m σ H) ∧ ∀ i m σ H, W i m σ H →
      (J.stop i H ∧ De.nx σ H) ∨ (J.go i H ∧ ∃ N : L2.St → Hp → Prop, (∀ σ' H', N σ' H' → ∃ m', m' < m ∧ W (i + 1) m' σ' H') ∧ ∀ x H', J.yld i H x H' → gTg w.K tup tg x σ H' fun σ2 H2 => anySs w f { De with nx := N, ct := N, bk := De.nx } σ2 H2) := by
  obtain ⟨hsz, G, Y, wlk, hG, hY⟩ := wk
  refine for_it wlk (fun i σ' H' => ∃ (ev' : Ev) (Z' : Hp) (A' : Nat → List Addr), Same Z Z' ∧ RS w.K c σ' H' Z' ev' A' ∧ OutS (w.blk c) Z' (forL tg tup (evSs w.cf f) (ds.drop i) ev') De)
    ⟨ev, Z, A, Same.refl _, R, hl⟩ (fun i σ' H' _ h => ?_) (fun i x σ' H' H'' hi h y => ?_) (fun σ' H' h => ?_)
  · obtain ⟨_, Z', _, s, R', _⟩ := h
    exact hG Z' H' s R'.sub
  · obtain ⟨ev', Z', A', s, R', hl'⟩ := h
    obtain ⟨Z2, d, hdi, g, rp⟩ := hY i H' x H'' Z' hi y s R'.sub
    have R2 := R'.ext g.zz g.sub g.zf g.nt g.hh
    have hdr : ds.drop i = d :: ds.drop (i + 1) := by
      have := List.getElem?_eq_some_iff.mp hdi
      rw [← this.2]
      exact List.drop_eq_getElem_cons this.1
    rw [hdr] at hl'
    simp only [forL] at hl'
    split at hl'
    · rename_i ev1 hb
      refine RS.bindTg R2 rp hb fun vs A1 R3 => ?_
      refine ⟨c, hc, ev1, Z2, A1, R3, ?_⟩
      have hl2 := hl'.same g.zz
      have sa := s.trans g.zz
      show OutS (w.blk c) Z2 (evSs w.cf f ev1) _
      cases hf : evSs w.cf f ev1 with
      | bad => rw [hf] at hl2; exact hl2.elim
      | ex x e => rw [hf] at hl2; exact hl2
      | ok a e =>
        rw [hf] at hl2
        cases a with
        | nx => exact fun σ3 H3 Z3 A3 s3 R4 => ⟨e, Z3, A3, sa.trans s3, R4, OutS.same hl2 s3⟩
        | ct => exact fun σ3 H3 Z3 A3 s3 R4 => ⟨e, Z3, A3, sa.trans s3, R4, OutS.same hl2 s3⟩
        | br => exact hl2
        | rt q => exact hl2
    · exact hl'.elim
  · obtain ⟨ev', Z', A', s, R', hl'⟩ := h
    rw [List.drop_eq_nil_of_le (Nat.le_refl _)] at hl'
    exact hl' σ' H' Z' A' (Same.refl _) R'
/-- the turns of a for -/
theorem for_turns {tg : List Nat} {tup : Bool} {f : Ss} {ds : List D} {J : L2.It} (wk : WalkOk w.K J Z ds) (R : RS w.K w.c σ H Z ev A) (hl : OutS w Z (forL tg tup (evSs w.cf f) ds ev) De) :
    ∃ W : Nat → Nat → L2.St → Hp → Prop, (∃ m, W 0 m σ H) ∧ ∀ i m σ H, W i m σ H →
      (J.stop i H ∧ De.nx σ H) ∨ (J.go i H ∧ ∃ N : L2.St → Hp → Prop, (∀ σ' H', N σ' H' → ∃ m', m' < m ∧ W (i + 1) m' σ' H') ∧ ∀ x H', J.yld i H x H' → gTg w.K tup tg x σ H' fun σ2 H2 => semSs w f { De with nx := N, ct := N, bk := De.nx } σ2 H2) := by
  obtain ⟨hsz, G, Y, wlk, hG, hY⟩ := wk
  refine for_it wlk (fun i σ' H' => ∃ (ev' : Ev) (Z' : Hp) (A' : Nat → List Addr), Same Z Z' ∧ RS w.K w.c σ' H' Z' ev' A' ∧ OutS w Z' (forL tg tup (evSs w.cf f) (ds.drop i) ev') De)
    ⟨ev, Z, A, Same.refl _, R, hl⟩ (fun i σ' H' _ h => ?_) (fun i x σ' H' H'' hi h y => ?_) (fun σ' H' h => ?_)
  · obtain ⟨_, Z', _, s, R', _⟩ := h
    exact hG Z' H' s R'.sub
  · obtain ⟨ev', Z', A', s, R', hl'⟩ := h
    obtain ⟨Z2, d, hdi, g, rp⟩ := hY i H' x H'' Z' hi y s R'.sub
    have R2 := R'.ext g.zz g.sub g.zf g.nt g.hh
    have hdr : ds.drop i = d :: ds.drop (i + 1) := by
      have := List.getElem?_eq_some_iff.mp hdi
      rw [← this.2]
      exact List.drop_eq_getElem_cons this.1
    rw [hdr] at hl'
    simp only [forL] at hl'
    split at hl'
    · rename_i ev1 hb
      refine RS.bindTg R2 rp hb fun vs A1 R3 => ?_
      refine ⟨ev1, Z2, A1, R3, ?_⟩
      have hl2 := hl'.same g.zz
      have sa := s.trans g.zz
      cases hf : evSs w.cf f ev1 with
      | bad => rw [hf] at hl2; exact hl2.elim
      | ex x e => rw [hf] at hl2; exact hl2
      | ok a e =>
        rw [hf] at hl2
        cases a with
        | nx => exact fun σ3 H3 Z3 A3 s3 R4 => ⟨e, Z3, A3, sa.trans s3, R4, OutS.same hl2 s3⟩
        | ct => exact fun σ3 H3 Z3 A3 s3 R4 => ⟨e, Z3, A3, sa.trans s3, R4, OutS.same hl2 s3⟩
        | br => exact hl2
        | rt q => exact hl2
    · exact hl'.elim
  · obtain ⟨ev', Z', A', s, R', hl'⟩ := h
    rw [List.drop_eq_nil_of_le (Nat.le_refl _)] at hl'
    exact hl' σ' H' Z' A' (Same.refl _) R'
end
end Bide

set_option autoImplicit false
set_option Elab.async false
set_option maxRecDepth 100000
set_option linter.all false
set_option maxHeartbeats 4000000
/-! Two names, two values: a, b = x, y. -/
namespace Bide
open PySem L2

def parParts : Stmt → Option (Str × Str × Nat × Nat × Expr × Expr)
  | .Assign [.Tuple [.Name x px, .Name y py] _ _] (.Tuple [a, b] _ _) _ => some (x, y, px.line, py.line, a, b)
  | _ => none
theorem parParts_eq {st : Stmt} {x y : Str} {l m : Nat} {a b : Expr} (h : parParts st = some (x, y, l, m, a, b)) : ∃ px py kt pt k2 pt2 pos, st = .Assign [.Tuple [.Name x px, .Name y py] kt pt] (.Tuple [a, b] k2 pt2) pos ∧ px.line = l ∧ py.line = m := by
  unfold parParts at h
  split at h
  · cases h
    exact ⟨_, _, _, _, _, _, _, rfl, rfl, rfl⟩
  · cases h
def parB (N : List Str) (ren : String → String) (is : List Nat) (e : E) (sc : Scope) (st : Stmt) : Bool := match is, e with
  | [i, j], .tup (.cons ea (.cons eb .nil)) => match parParts st with
    | some (x, y, l, m, a, b) => decide (N[i]? = some x) && (decide (N[j]? = some y) && (decide (i ≠ j) && (decide (x ≠ y) && (decide (l = m) && (decide (sc.names.lookup x = some .local) && (decide (sc.names.lookup y = some .local) && (!(foldedForSure 8 a && foldedForSure 8 b) && (!(constantsAlone 8 a && constantsAlone 8 b) && (mE N ren ea sc a && mE N ren eb sc b)))))))))
    | none => false
  | _, _ => false
theorem noStar_b {a : Expr} (h : noStar a = true) : (match a with
    | .Starred .. => true
    | _ => false) = false := by cases a <;> first | rfl | (cases h; done)
theorem stores_par {x y : Str} {px py pt pt2 : Pos} {kt k2} {a b : Expr} {env : Env} (hk : env.scope.kind = .function) (hx : env.kindOf x = some .local) (hy : env.kindOf y = some .local) (hxy : x ≠ y) (hl : px.line = py.line) (na : noStar a = true) (nb : noStar b = true)
    (h1 : (foldedForSure 8 a && foldedForSure 8 b) = false) (h2 : (constantsAlone 8 a && constantsAlone 8 b) = false) : swappedStores [.Tuple [.Name x px, .Name y py] kt pt] (.Tuple [a, b] k2 pt2) env = pure (some [x, y]) := by
  have hb : env.blockKind = .function := by unfold Env.blockKind; rw [hk]; rfl
  have hne : (x == y) = false := by simpa using hxy
  have hne' : (y == x) = false := by simpa using Ne.symm hxy
  have a1 := noStar_b na
  have a2 := noStar_b nb
  unfold swappedStores
  simp only [hb]
  have e3 : ([a, b].all (foldedForSure 8)) = false := by simpa using h1
  have e4 : ([a, b].all (constantsAlone 8)) = false := by simpa using h2
  simp only [e3, e4]
  simp only [List.any_cons, List.any_nil, Bool.or_false]
  simp only [List.length_cons, List.length_nil, List.head?_cons, Option.map_some, Option.getD_some, Expr.pos]
  have e2 : ([x, y] : List Str).eraseDups = [x, y] := by simp [List.eraseDups_cons,Ne.symm hxy]
  rw [if_neg (by decide), if_neg (by
    intro h
    rw [Bool.or_eq_true] at h
    rcases h with h | h
    · cases a <;> first | (cases na; done) | (cases h)
    · cases b <;> first | (cases nb; done) | (cases h))]
  simp only [List.filterMap_cons, List.filterMap_nil, hx, hy, hl, beq_self_eq_true, Bool.and_self, if_true]
  rw [e2]
  rfl
theorem bindR {α β γ : Type} {x : R α} {f : α → Ev → R β} {g : β → Ev → R γ} : (x.bind f).bind g = x.bind fun a e => (f a e).bind g := by cases x <;> rfl
theorem kindOfL {env : Env} {n : Str} (hk : env.scope.kind = .function) (h : env.scope.names.lookup n = some .local) : env.kindOf n = some .local := by
  unfold Env.kindOf
  simp [h]
theorem par_ok {w : Wd} {k : Nat} {N : List Str} {xs : List String} {X : Cx} {is : List Nat} {e : E} {st : Stmt} (hS : XSt w k N xs X) (tk : Takes X w.W) (hm : parB N w.ren is e X.env.scope st = true) : PS X st (semS w (.unp is e)) := by
  unfold parB at hm
  split at hm
  · rename_i i j ea eb
    cases hp : parParts st with
    | none => rw [hp] at hm; cases hm
    | some q =>
      obtain ⟨x, y, l, m, a, b⟩ := q
      rw [hp] at hm
      obtain ⟨px, py, kt, pt, k2, pt2, pos, rfl, hpl, hpm⟩ := parParts_eq hp
      simp only [Bool.and_eq_true, decide_eq_true_eq, Bool.not_eq_true'] at hm
      obtain ⟨h1, h2, h3, h4, h5, h6, h7, h8, h9, h10, h11⟩ := hm
      have st1 := star_of (env := X.env) (es := []) (mE_noStar h11)
      have st2 := star_of (env := X.env) (es := [b]) (mE_noStar h10)
      have hw := stores_par (px := px) (py := py) (kt := kt) (pt := pt) (k2 := k2) (pt2 := pt2) hS.kind (kindOfL hS.kind h6) (kindOfL hS.kind h7) h4 (by rw [hpl, hpm]; exact h5) (mE_noStar h10) (mE_noStar h11) h8 h9
      have hem : mEs N w.ren (.cons ea (.cons eb .nil)) X.env.scope [a, b] = true := by simp [mEs,h10,h11]
      refine ⟨fun pins s σ H De I h => (ps_par hS.x.calm hS.x.nd (by rw [hS.x.N]; exact h1) (by rw [hS.x.N]; exact h2) h3 h6 h7 (sndEs (.cons ea (.cons eb .nil)) hS.x tk hem) hw sole_tup).run pins s σ H De I ?_⟩
      obtain ⟨ev, Z, A, R, h⟩ := h
      simp only [evS, evE] at h
      rw [bindR] at h
      refine semEs_mono (stmEsN R h) fun vs H1 ⟨rs, e1, Z1, A1, s1, R1, q1, hn1, h1⟩ => ?_
      cases hd : escs e1 rs with
      | none => rw [hd] at h1; exact h1.elim
      | some q =>
        obtain ⟨ds, e2⟩ := q
        rw [hd] at h1
        dsimp only at h1
        obtain ⟨Z2, A2, s2, R2, rp⟩ := R1.escs q1 hd
        split at h1
        · simp only [Bide.R.bind, esc] at h1
          cases he : setVs e2 [i, j] ds with
          | none => rw [he] at h1; exact h1.elim
          | some e3 =>
            rw [he] at h1
            obtain ⟨A3, R3, hlen⟩ := R2.setVs rp he
            have hl2 : vs.length = 2 := hlen.symm
            obtain ⟨v, u, rfl⟩ : ∃ v u, vs = [v, u] := by
              match vs, hl2 with
              | [v, u], _ => exact ⟨v, u, rfl⟩
            exact ⟨v, u, rfl, h1 _ H1 Z2 A3 s2 R3⟩
        · exact h1.elim
  · cases hm
end Bide

set_option autoImplicit false
set_option maxHeartbeats 1000000
/-! try with several clauses, each with a name. -/
namespace Bide
open PySem L2 PySem.Spec PyProof.Rows
/-- a clause: its class, its name's slot, its suite -/
abbrev Cls := Value × Nat × (Addr → Value → Option Addr → TS)
/-- behind a suite its name is gone -/
def gone (k : Nat) (De : Ends) : Ends :=
  ⟨fun τ G => De.nx (τ.set k none) G, De.rt, fun τ G => De.bk (τ.set k none) G, fun τ G => De.ct (τ.set k none) G⟩
/-- the first clause that takes an exception -/
def takes (K : PySem.W.Frag) (out : WX) (De : Ends) : List Cls → WX
  | [] => out
  | q :: more => fun kl dd τ G => ∃ yes, PySem.W.exmOne K kl q.1 = some yes ∧
      (yes = true → ∀ x, G x = none → q.2.2 x kl dd (gone q.2.1 De) (τ.set q.2.1 (some (V.ref x))) G) ∧ (yes = false → takes K out De more kl dd τ G)
inductive Clauses (X : Cx) : List ExceptHandler → List Cls → Prop
  | nil : Clauses X [] []
  | cons {w nm : Str} {kl : Value} {k : Nat} {tt : Addr → Value → Option Addr → TS} {st : Stmt} {sts : List Stmt} {p q : Pos} {more : List ExceptHandler} {qs : List Cls}
      (named : Names X w kl) (slot : X.N[k]? = some nm) (loc : X.env.kindOf nm = some .local)
      (suite : ∀ (x : Addr) (ob : Obj) (kv : Value) (dd : Option Addr) (pn : List (Addr × Obj)), Zc kv dd ob → (∃ fs, ob.data = .fields fs) →
        PSs (X.suite x ((x, ob) :: pn)) (st :: sts) (tt x kv dd))
      (rest : Clauses X more qs) : Clauses X (.ExceptHandler (some (.Name w p)) (some nm) (st :: sts) q :: more) ((kl, k, tt) :: qs)

section
variable {X : Cx} {body : List Stmt} {e0 : ExceptHandler} {es : List ExceptHandler} {qs : List Cls} {pp : Pos} {tb : WX → TS} {out : WX}
/-- what the clauses make of an exception that comes to them -/
def caught (X : Cx) (pins : List (Addr × Obj)) (De : Ends) (hs : List ExceptHandler) (u : Value) (y : Shared) : Prop :=
  wpAny (model X.prog X.w) X.A (noteFrame u X.env)
    (fun _ y2 => wpAny (model X.prog X.w) X.A (setFlight u none)
      (fun _ y3 => wpAny (model X.prog X.w) X.A (handleBy u X.env hs) (SP X pins De) X.xe y3) X.xe y2) X.xe y
/-- the name goes behind a suite -/
theorem endsIn {x : Addr} {pn : List (Addr × Obj)} {k : Nat} {nm : Str} {q : Pos} {pins : List (Addr × Obj)} {De : Ends}
    (back : ∀ {τ : L2.St} {G : Hp} {z : Shared}, Inv (X.suite x pn) [] τ G z → Inv X pins τ G z)
    (nd : X.N.Nodup) (slot : X.N[k]? = some nm) (loc : X.env.kindOf nm = some .local)
    {fl : Flow} {z : Shared} (hz : SP (X.suite x pn) [] (gone k De) fl z) :
    wpAny (model X.prog X.w) X.A (do bindName X.env nm .none; unbindBehindTheSuite X.env nm q) (fun _ z' => SP X pins De fl z') X.xe z := by
  cases fl with
  | next => obtain ⟨τ, G, inv, r⟩ := hz
            exact gone_ok (back inv) nd slot loc fun _ inv' => ⟨_, _, inv', r⟩
  | brk => obtain ⟨τ, G, inv, r⟩ := hz
           exact gone_ok (back inv) nd slot loc fun _ inv' => ⟨_, _, inv', r⟩
  | cont => obtain ⟨τ, G, inv, r⟩ := hz
            exact gone_ok (back inv) nd slot loc fun _ inv' => ⟨_, _, inv', r⟩
  | ret u => obtain ⟨v, τ, G, inv, rel, r⟩ := hz
             exact gone_ok (back inv) nd slot loc fun _ inv' => ⟨_, _, _, inv', rel, r⟩
theorem ps_tries (stk : X.stack = X.env :: X.outer) (frm : X.env.frame = some X.env.locals) (nd : X.N.Nodup) (tk : Takes X out)
    (hb : ∀ (W : WX) (pn : List (Addr × Obj)) (xe : Value → Shared → Prop), Takes (X.tr pn xe) W → PassesOwn (model X.prog X.w) X.A X.env xe → PSs (X.tr pn xe) body (tb W))
    (cl : Clauses X (e0 :: es) qs) : PS X (.Try body (e0 :: es) [] [] pp) (fun De τ G => tb (takes X.K out De qs) De τ G) := by
  constructor
  intro pins z τ G De inv hy
  have ok := inv.ok
  have fs : X.A.frames = some (X.env :: X.outer) := ok.frames.trans (congrArg some stk)
  apply wpAny_Try_except
  refine wpAny_mono ((hb (takes X.K out De qs) (X.pn ++ pins) (caught X pins De (e0 :: es)) ?_ PassesOwn.looking).run [] z τ G De (inv.toTry _) hy) ?_ (fun _ _ y => y)
  · intro u y cu
    obtain ⟨x, B, yI, pins2, τ2, G2, kl, dd, rfl, invT, nb, up, sky, free, os, ag, hw⟩ := cu
    have inv2 : Inv X pins τ2 G2 yI := invT.ofTry ok
    rw [show (X.tr (X.pn ++ pins) (caught X pins De (e0 :: es))).stack = X.env :: X.outer from stk] at sky
    refine Sky.land Zc.steady fs frm sky fun h1 fly up1 => ?_
    obtain ⟨ob, fv, at1, zc1, fd1⟩ := fly.there
    have inv3 : Inv X pins τ2 G2 { y with heap := h1 } :=
      inv2.landed nb fly.1 (up.trans up1) os ag
    have off : ∀ {hh : Heap} {o : Obj} {ws : Array Value}, hh.FunFrames B (X.env :: X.outer) → hh.get? x = some o → o.data = .fields ws → x ∉ frs (X.env :: X.outer) := by
      intro hh o ws ff g fd hm
      obtain ⟨_, o2, g2, nf⟩ := ff.mem hm
      cases g.symm.trans g2
      exact nf _ fd
    have off1 := off fly.2.2.1 at1 fd1
    have offL : x ≠ X.env.locals := by
      rintro rfl
      exact off1 (List.mem_filterMap.mpr ⟨X.env, List.mem_cons_self, frm⟩)
    have offF : x ∉ X.fs := by
      intro hm
      obtain ⟨en, hen, hq⟩ := List.mem_filterMap.mp hm
      exact off1 (List.mem_filterMap.mpr ⟨en, List.mem_cons_of_mem _ hen, hq⟩)
    have invS := inv3.suite at1 fd1 free offL offF
    have walk : ∀ {hs : List ExceptHandler} {ls : List Cls}, Clauses X hs ls → takes X.K out De ls kl dd τ2 G2 →
        wpAny (model X.prog X.w) X.A (handleBy (.ref x) X.env hs) (SP X pins De) X.xe { y with heap := h1 } := by
      intro hs ls hc
      induction hc with
      | nil =>
        intro hw
        apply wpAny_handleBy_nil
        have ⟨_, _, _, ob2, fv2, tb2, _, _, g2, _, fd2, tr2, _⟩ := fly
        unfold PySem.passOn
        apply wpAny_bind
        apply wpAny_field g2 fd2 tr2
        have some_tb : ¬ ((Value.ref tb2 == Value.none) = true) := by simp
        rw [if_neg some_tb]
        have on : wpAny (model X.prog X.w) X.A (setFlight (.ref x) X.env.frame)
            (fun _ y4 => wpAny (model X.prog X.w) X.A (throw (.ref x) : Sem Flow) (SP X pins De) X.xe y4) X.xe { y with heap := h1 } := by
          rw [frm]
          refine HandSPX.setFlight_upZ fly fun h2 held up2 => ?_
          apply wpAny_throw
          apply tk
          exact ⟨x, B, yI, pins, τ2, G2, kl, dd, rfl, inv2, nb, (up.trans up1).trans up2,
            .inr (.inr (by rw [stk]; exact held)), free, os, ag, hw⟩
        first
          | exact wpAny_bind on
          | exact wpAny_bind (wpAny_pure (wpAny_bind on))
      | cons named slot loc suite rest ih =>
        intro hw
        rename_i w nm kc k tt st sts p q more ls
        obtain ⟨yes, ey, hyes, hno⟩ := hw
        refine wpAny_handleBy_cons (codeAny_handlers_test ?_) nofun
        have ty : PySem.W.Looks (model X.prog X.w) h1 (typeOf (.ref x)) kl := by
          intro A2 Q2 E2 y2 keep hq
          exact wpAny_typeOf_ref (keep _ _ at1) (zc1.1 ▸ hq)
        have mt := PySem.W.exm_one (M := model X.prog X.w) inv3.kIn ty ey
        have name : ∀ {Q2 E2 : Value → Shared → Prop}, Q2 kc { y with heap := h1 } →
            wpAny (model X.prog X.w) (X.A.mark (some (.ref x))) (eval (.Name w p) X.env) Q2 E2 { y with heap := h1 } := by
          intro Q2 E2 hq
          obtain ⟨gl, nd2, glob | ⟨noG, boot, nn⟩⟩ := named
          · exact ld_glob (X := X.suite x ((x, ob) :: (X.pn ++ pins))) invS gl glob hq nd2
          · exact ld_blt (X := X.suite x ((x, ob) :: (X.pn ++ pins))) invS gl noG boot hq nn nd2
        apply name
        apply mt.here
        cases yes with
        | false => exact ih (hno rfl)
        | true =>
          apply codeAny_handlers_suite_as
          refine HandSPX.lands_againZ fly fun h2 fly2 up2 => ?_
          obtain ⟨ob2, fv2, at2, zc2, fd2⟩ := fly2.there
          have inv4 : Inv X pins τ2 G2 { y with heap := h2 } :=
            inv2.landed nb fly2.1 ((up.trans up1).trans up2) os ag
          have invT2 := inv4.suite at2 fd2 free offL offF
          refine store_ok (X := X.suite x ((x, ob2) :: (X.pn ++ pins))) (v := V.ref x) invT2 nd slot (.inl loc) rfl (fun y5 inv5 => ?_) (.inr loc)
          have runs := (suite x ob2 kl dd (X.pn ++ pins) zc2 ⟨_, fd2⟩).run [] y5 _ G2 _ inv5 (hyes rfl x free)
          refine wpAny_mono runs (fun fl y6 hz => ?_) (fun _ _ no => no.elim)
          exact endsIn (fun i => i.unsuite ok) nd slot loc hz
    exact walk cl hw
  · intro fl y hy
    cases fl with
    | next => obtain ⟨τ2, G2, inv2, r⟩ := hy
              exact wpAny_execs_nil ⟨τ2, G2, inv2.ofTry ok, r⟩
    | brk => obtain ⟨τ2, G2, inv2, r⟩ := hy
             exact ⟨τ2, G2, inv2.ofTry ok, r⟩
    | cont => obtain ⟨τ2, G2, inv2, r⟩ := hy
              exact ⟨τ2, G2, inv2.ofTry ok, r⟩
    | ret v => obtain ⟨w, τ2, G2, inv2, rel, r⟩ := hy
               exact ⟨w, τ2, G2, inv2.ofTry ok, rel, r⟩
end
end Bide

set_option autoImplicit false
set_option Elab.async false
set_option maxRecDepth 100000
set_option linter.all false
set_option maxHeartbeats 4000000
/-! except clauses whose suites ask the class. -/
namespace PySem.W
open PySem PySem.Spec PySem.Calls PyProof.Rows
section
variable {prog : Program} {w : World} {A : Around} {E : Value → Shared → Prop} {s : Shared} {K : Frag} {x D : Addr} {ox : Obj}
/-- e.__class__, e an exception with or without a dict -/
theorem bide_class {od : Option Obj} {Q : Option Value → Shared → Prop} (C : L2.ExcC K D) (X : K.In s.heap) (I : InstAt s.heap x ox D od) (h : Q (some (.ref D)) { s with toks := s.toks + 1 }) : wpAny (model prog w) A (getAttr? (.ref x) "__class__") Q E s := by
  have hf : findObj K D od "__class__" = some (.bind (.builtin "getset_descriptor.__get__") (.builtin "object.__class__")) := by
    obtain ⟨cd, hc, _⟩ := any_some C.hd
    unfold findObj
    rw [hc, Option.bind_some, C.ha, Option.bind_some]
    simp [C.hn,C.ht]
  obtain ⟨hp, g, d, t, os⟩ := s
  have T0 := I.type (M := model prog w)
  have T1 := looks_findIn (M := model prog w) X C.hg
  have T2 := looks_findIn (M := model prog w) X C.hk
  have T3 := looks_find (M := model prog w) X I hf
  have sub : Looks (model prog w) hp (isInstance (.ref x) (.type "BaseException")) true := T0.andThen (looks_subIn X C.hs)
  have z0 : (false && onTheHeap (Value.builtin "BaseException.__getattribute__")) = false := rfl
  have z2 : (Value.builtin "BaseException.__getattribute__" == Value.builtin "object.__getattribute__") = false := by decide +kernel
  have z1 : (onTheHeap (Value.ref D) && Value.builtin "BaseException.__getattribute__" == Value.builtin "object.__getattribute__") = false := by rw [z2]; rfl
  unfold getAttr? getAttrBy? getAttrBy
  refine wpAny_bind (wpAny_mkText (wpAny_bind (wpAny_attempt (wpAny_holding (wpAny_bind (T0.at (wpAny_bind (T1.at ?_))))))))
  show wpAny _ _ (if (onTheHeap (Value.ref D) && Value.builtin "BaseException.__getattribute__" == Value.builtin "object.__getattribute__") = true then _ else _) _ _ _
  rw [z1, if_neg Bool.false_ne_true]
  unfold getAttrByItsOwn hookBefore
  refine wpAny_bind ?_
  rw [if_pos (show onTheHeap (Value.ref D) = true from rfl)]
  refine T2.at ?_
  refine wpAny_bind (wpAny_attempt (wpAny_holding ?_))
  unfold callGetattribute
  rw [z0, if_neg Bool.false_ne_true]
  unfold boundAndCalled
  rw [PySem.F.excAttr_ValueError.ga.bind (.ref x)]
  refine wpAny_bind (wpAny_pure ?_)
  show wpAny _ _ (call (.builtin "BaseException.__getattribute__") [.ref x, .str "__class__" t]) _ _ _
  refine wpAny_call (codeAny_call_builtin PySem.F.excAttr_ValueError.ga.plain PySem.F.entry_bexc_ga ?_)
  refine @check_slot (model prog w) _ _ ⟨hp, g, d, t + 1, os⟩ "BaseException.__getattribute__" "BaseException" "__getattribute__" (.ref x) [.str "__class__" t] [] _ (by decide +kernel) (by decide +kernel) sub (PySem.F.args_bexc_ga (.ref x) (.str "__class__" t)) ?_
  unfold Builtin.«object.__getattribute__»
  refine wpAny_bind (wpAny_of_eq (a := ((Value.ref x : Value), [Value.str "__class__" t])) (by first | rfl | (simp only [slotArgs]; rfl)) ?_)
  refine wpAny_bind (wpAny_pure (wpAny_bind (T0.at (wpAny_bind (T3.at ?_)))))
  show wpAny _ _ (holding [Value.builtin "object.__class__"] (call (.builtin "getset_descriptor.__get__") [.builtin "object.__class__", .ref x, .ref D]) >>= ret) _ _ _
  refine wpAny_bind (wpAny_holding (wpAny_call (class_get (s := ⟨hp, g, d, t + 1, os⟩) (ox := ox) (od := od) X I C.hm ?_)))
  refine wpAny_pure ?_
  show wpAny _ _ (handedOut (.ref D)) _ _ _
  rw [handedOut_of (v := .ref D) rfl]
  first
    | exact wpAny_pure (wpAny_pure h)
    | exact wpAny_pure h
    | exact wpAny_pure (wpAny_bind (wpAny_pure (wpAny_pure h)))
theorem bide_kitx {od : Option Obj} (C : L2.ExcC K D) : KitX K (.ref x) (.ref D) (fun h => InstAt h x ox D od) where
  ty := fun _ _ _ I => I.type
  it := fun _ _ X _ => by
    obtain ⟨cdD, hcD, _⟩ := any_some C.hd
    unfold clsIn at hcD
    split at hcD
    · rename_i c' d' cd' sl' ho
      intro A' Q' E' s' k q
      unfold isType loadHead
      exact wpAny_bind (wpAny_loadPart (k _ _ (X _ _ ho)) (wpAny_pure q))
    · cases hcD
  ne := fun h tp dd its n sl X htp => by
    obtain ⟨cdD, hcD, _⟩ := any_some C.hd
    refine Bool.eq_false_iff.mpr fun q => ?_
    have e : D = tp := Value.ref.inj (beq_iff_eq.mp q)
    subst e
    unfold clsIn at hcD
    split at hcD
    · rename_i c' d' cd' sl' ho
      have z := (X _ _ ho).symm.trans htp
      cases z
    · cases hcD
  ca := fun X I k => bide_class C X I k
end
end PySem.W
namespace Bide
open PySem L2 PySem.Spec PyProof.Rows
/-- isinstance(e, c), e the exception that the suite holds, its dict standing in H -/
def rIsX (K : PySem.W.Frag) (D a : Addr) (dd : Option Addr) : List V → Hp → VK → Prop := fun xs H Q => ∃ (c : V) (cv : Value) (b : Bool), xs = [.ref a, c] ∧ (∀ u, RelV c u → u = cv) ∧ PySem.W.kitOne K (.ref D) cv = some b ∧ (∀ d, dd = some d → ∃ fs, H d = some (.xd fs)) ∧ Q (.bl b) H
theorem call_isX {X : Cx} {a D : Addr} {oe : Obj} {dd : Option Addr} {pn : List (Addr × Obj)} (C : ExcC X.K D) (hz : Zc (.ref D) dd oe) (hf : ∃ vs, oe.data = .fields vs) : CallR (X.suite a ((a, oe) :: pn)) (.builtin "isinstance") (rIsX X.K D a dd) := by
  intro pins s σ H xs us Q I r h
  obtain ⟨c, cv, b, rfl, hcv, e, hd, q⟩ := h
  cases r with
  | cons rx rr =>
    cases rr with
    | cons rt rr =>
      cases rr
      cases rx
      have ec := hcv _ rt
      subst ec
      obtain ⟨hget, _⟩ := I.pin (a, oe) (List.mem_append.mpr (.inl List.mem_cons_self))
      obtain ⟨vs, hv⟩ := hf
      have J : ∃ od, PySem.W.InstAt s.heap a oe D od := by
        obtain ⟨oc, odt, oda, osl⟩ := oe
        obtain ⟨h1, h2⟩ := hz
        dsimp only at h1 h2 hv
        subst h1 h2 hv
        cases odt with
        | none => exact ⟨none, hget, rfl, rfl, trivial⟩
        | some d =>
          obtain ⟨fs, hx⟩ := hd d rfl
          have ho := I.hok d _ hx
          obtain ⟨mA, hns, _⟩ := (show ∃ mA, s.heap.Ns1 d mA ∧ _ from ho)
          obtain ⟨o, es, ep, ho', _⟩ := hns
          exact ⟨some o, hget, rfl, rfl, ho'⟩
      obtain ⟨od, J⟩ := J
      exact PySem.W.kia_one (PySem.W.bide_kitx C) I.kIn J e (fun z => nomatch z) fun tk => ⟨.bl b, H, I.kept (t' := tk) fun _ _ z => z, rfl, q⟩
end Bide
namespace Bide
open PySem L2 PySem.Spec PyProof.Rows
/-! ### the texts -/
/-- a class that the program is known to have -/
def knC (xf : String → List String) (c : String) : Bool := decide (xf c ≠ []) || (decide (c = "ValueError") || (decide (c = "BideError") && (decide (xf "BadValue" ≠ []) || decide (xf "NotPossible" ≠ []))))
def mIsi (xf : String → List String) (sc : Scope) (n : Str) (c : String) : Expr → Bool
  | .Call (.Name x _) [.Name y _, .Name z _] [] _ => isN x "isinstance" && (glb sc x && (decide (y = n) && (isN z c && (glb sc z && (okName z && knC xf c)))))
  | _ => false
def mCs (xf : String → List String) (sc : Scope) (n : Str) : List String → Expr → Bool
  | [a], py => mIsi xf sc n a py
  | [a, b], .BoolOp .And [p, q] _ => mIsi xf sc n a p && mIsi xf sc n b q
  | _, _ => false
def mHA (xf : String → List String) (sc : Scope) (n : Str) : HA → Expr → Bool
  | .fld _ f, .Attribute (.Name y _) a _ => decide (y = n) && isN a f
  | .str s, .Constant (.str z) _ _ => decide (z = Str.ofString s)
  | .non, .Constant .none _ _ => true
  | .bl b, .Constant (.bool d) _ _ => decide (b = d)
  | .isi c, py => mIsi xf sc n c py
  | _, _ => false
def mHAs (xf : String → List String) (sc : Scope) (n : Str) : List HA → List Expr → Bool
  | [], [] => true
  | a :: r, p :: q => mHA xf sc n a p && mHAs xf sc n r q
  | _, _ => false
def mHX (xf : String → List String) (sc : Scope) (n : Str) : HX → Expr → Bool
  | .one a, py => mHA xf sc n a py
  | .tup as, .Tuple es _ _ => mHAs xf sc n as es
  | .lst as, .List es _ => mHAs xf sc n as es
  | _, _ => false
def mHB (xf : String → List String) (sc : Scope) (n : Str) : List (List String × HX) → HX → List Stmt → Bool
  | [], el, [.Return (some py) _] => mHX xf sc n el py
  | (cs, h) :: ts, el, .If c [.Return (some py) _] [] _ :: rest => mCs xf sc n cs c && (mHX xf sc n h py && mHB xf sc n ts el rest)
  | _, _, _ => false
/-- fields are read of classes that have them -/
def fdA (xf : String → List String) (cs : List String) : HA → Bool
  | .fld j f => cs.any fun y => decide (xf y ≠ []) && decide ((xf y)[j]? = some f)
  | _ => true
def fdX (xf : String → List String) (cs : List String) : HX → Bool
  | .one a => fdA xf cs a
  | .tup as => as.all (fdA xf cs)
  | .lst as => as.all (fdA xf cs)
/-- not too long -/
def smX : HX → Bool
  | .one _ => true
  | .tup as => decide (as.length ≤ 100)
  | .lst as => decide (as.length ≤ 100)
def smB : List (List String × HX) → HX → Bool
  | [], el => smX el
  | (_, h) :: ts, el => smX h && smB ts el
def fdB (xf : String → List String) (c : String) : List (List String × HX) → HX → Bool
  | [], el => fdX xf [c] el
  | (cs, h) :: ts, el => fdX xf (c :: cs) h && fdB xf c ts el
def ehQ : ExceptHandler → Option (Str × Str × List Stmt)
  | .ExceptHandler (some (.Name y _)) (some n) (b :: bs) _ => some (y, n, b :: bs)
  | _ => none
theorem ehQ_eq {eh : ExceptHandler} {y n : Str} {sts : List Stmt} (h : ehQ eh = some (y, n, sts)) : ∃ np hp b bs, sts = b :: bs ∧ eh = .ExceptHandler (some (.Name y np)) (some n) (b :: bs) hp := by
  unfold ehQ at h
  split at h
  · cases h
    exact ⟨_, _, _, _, rfl, rfl⟩
  · cases h
def mHd (N : List Str) (xf : String → List String) (sc : Scope) (h : Hd) (eh : ExceptHandler) : Bool := match h.sl, ehQ eh with
  | some i, some (y, n, sts) => isN y h.c && (glb sc y && (okName y && (decide (N[i]? = some n) && (vis sc n && (okName n && (decide (sc.names.lookup n = some .local) && (knC xf h.c && (decide (h.c ≠ "ValueError") && (mHB xf sc n h.ts h.el sts && (fdB xf h.c h.ts h.el && smB h.ts h.el))))))))))
  | _, _ => false
def mHds (N : List Str) (xf : String → List String) (sc : Scope) : List Hd → List ExceptHandler → Bool
  | [], [] => true
  | h :: hs, e :: es => mHd N xf sc h e && mHds N xf sc hs es
  | _, _ => false
/-! ### what they do -/
section
variable (x : String) (C a : Addr) (kv : Value) (dd : Option Addr) (i : Nat)
/-- the slot holds the exception, its dict stands -/
def heldX (σ : L2.St) (H : Hp) : Prop := σ[i]? = some (some (V.ref a)) ∧ ∀ d, dd = some d → ∃ fs, H d = some (.xd fs)
def tHA : HA → TE
  | .fld _ f => tXf a kv dd C (sN f) (tVar i)
  | .str s => tC (.str (Str.ofString s))
  | .non => tC .non
  | .bl b => tC (.bl b)
  | .isi c => fun σ H Q => heldX a dd i σ H ∧ Q (.bl (subX x c)) H
def tHAs : List HA → TA
  | [] => tNil
  | p :: ps => tCons (tHA x C a kv dd i p) (tHAs ps)
def tHX : HX → TS
  | .one p => tRet (tHA x C a kv dd i p)
  | .tup ps => tRet (tTup (tHAs x C a kv dd i ps))
  | .lst ps => tRet (tLst (tHAs x C a kv dd i ps))
def tHB : List (List String × HX) → HX → TS
  | [], el => tHX x C a kv dd i el
  | (cs, h) :: ts, el => fun De σ H => heldX a dd i σ H ∧ if cs.all (subX x) = true then tHX x C a kv dd i h De σ H else tHB ts el De σ H
end
/-- a clause's suite, whatever class came -/
def tHd (ca : String → Option Addr) (h : Hd) (i : Nat) (a : Addr) (kv : Value) (dd : Option Addr) : TS := fun De σ H => ∃ x C, ca x = some C ∧ kv = .ref C ∧ subX x h.c = true ∧ tHB x C a kv dd i h.ts h.el De σ H
section
variable {X : Cx} {N : List Str} {ca : String → Option Addr} {xf : String → List String} {x : String} {n : Str} {i : Nat} {C a : Addr} {oe : Obj} {dd : Option Addr} {pn : List (Addr × Obj)}
/-- what a suite's parts want -/
structure HOk1 (X : Cx) (N : List Str) (ca : String → Option Addr) (xf : String → List String) (x : String) (n : Str) (i : Nat) (C a : Addr) (oe : Obj) (dd : Option Addr) (pn : List (Addr × Obj)) : Prop where
  eN : X.N = N
  blt : ∀ x ∈ bltNames, X.mg (sN x) = none
  xc : XcOk X.K X.mg ca xf
  hC : ca x = some C
  sl : N[i]? = some n
  vi : vis X.env.scope n = true
  ok : okName n = true
  hz : Zc (.ref C) dd oe
  hf : ∃ vs, oe.data = .fields vs
theorem HOk1.rd (h : HOk1 X N ca xf x n i C a oe dd pn) (pos : Pos) : PE (X.suite a ((a, oe) :: pn)) (.Name n pos) (tVar i) := rd_slot (X := X.suite a ((a, oe) :: pn)) h.eN (by unfold rdSlot; simp [h.sl,h.vi,h.ok])
theorem HOk1.kn (h : HOk1 X N ca xf x n i C a oe dd pn) {c : String} (q : knC xf c = true) : c = "ValueError" ∨ ∃ D, ca c = some D := by
  unfold knC at q
  simp only [Bool.or_eq_true, Bool.and_eq_true, decide_eq_true_eq] at q
  rcases q with q | q | ⟨rfl, q | q⟩
  · exact .inr (h.xc.has c q)
  · exact .inl q
  · exact .inr (h.xc.bas _ q)
  · exact .inr (h.xc.bas _ q)
theorem isi_pe (h : HOk1 X N ca xf x n i C a oe dd pn) {c : String} {py : Expr} (hm : mIsi xf X.env.scope n c py = true) : PE (X.suite a ((a, oe) :: pn)) py (fun σ H Q => heldX a dd i σ H ∧ Q (.bl (subX x c)) H) := by
  unfold mIsi at hm
  split at hm
  · rename_i x0 p0 y p1 z p2 p3
    simp only [Bool.and_eq_true, decide_eq_true_eq] at hm
    obtain ⟨h1, h2, rfl, h4, h5, h6, h7⟩ := hm
    cases isN_eq h1
    cases isN_eq h4
    have key : ∃ (v : V) (u : Value), PE (X.suite a ((a, oe) :: pn)) (.Name (sN c) p2) (tC v) ∧ (∀ t, RelV v t → t = u) ∧ PySem.W.kitOne X.K (.ref C) u = some (subX x c) := by
      rcases h.kn h7 with rfl | ⟨D, hD⟩
      · refine ⟨.ty "ValueError", .type "ValueError", pe_bltn (v := .ty "ValueError") (u := .type "ValueError") (glb_gl h5) (h.blt _ (by decide)) (by decide +kernel) rfl (by decide +kernel) (by decide +kernel), fun t r => r, ?_⟩
        rw [h.xc.kitV x C h.hC]
        simp [subX]
      · exact ⟨.ref D, .ref D, pe_glob (glb_gl h5) (h.xc.mgx c D hD) rfl (okN1 h6), fun t r => r, h.xc.kit x c C D h.hC hD⟩
    obtain ⟨v, u, e1, e2, e3⟩ := key
    refine ⟨fun pins s σ H Q I hh => (pe_callB (call_isX (pn := pn) (h.xc.isi x C h.hC) h.hz h.hf) (glb_gl h2) (h.blt "isinstance" (by decide)) (by decide +kernel) (pa_cons (h.rd p1) (pa_cons e1 pa_nil)) (by decide +kernel) (by decide +kernel)).run pins s σ H Q I ?_⟩
    exact ⟨.ref a, hh.1.1, v, u, subX x c, rfl, e2, e3, hh.1.2, hh.2⟩
  · cases hm
theorem hA_pe (h : HOk1 X N ca xf x n i C a oe dd pn) {p : HA} {py : Expr} (hm : mHA xf X.env.scope n p py = true) (hfd : ∀ j f, p = .fld j f → f ∈ xf x) : PE (X.suite a ((a, oe) :: pn)) py (tHA x C a (.ref C) dd i p) := by
  cases p with
  | fld j f =>
    cases py <;> first | (exfalso; revert hm; simp [mHA]; done) | skip
    rename_i e at_ pp
    cases e <;> first | (exfalso; revert hm; simp [mHA]; done) | skip
    simp only [mHA, Bool.and_eq_true, decide_eq_true_eq] at hm
    obtain ⟨rfl, e2⟩ := hm
    cases isN_eq e2
    exact pe_xf (h.xc.xfc x C h.hC) (h.xc.nof x C h.hC f (hfd j f rfl)) h.hz h.hf (h.rd _)
  | str s =>
    cases py <;> first | (exfalso; revert hm; simp [mHA]; done) | skip
    rename_i v _ _
    cases v <;> first | (exfalso; revert hm; simp [mHA]; done) | skip
    simp only [mHA, decide_eq_true_eq] at hm
    subst hm
    exact pe_str
  | non =>
    cases py <;> first | (exfalso; revert hm; simp [mHA]; done) | skip
    rename_i v _ _
    cases v <;> first | (exfalso; revert hm; simp [mHA]; done) | skip
    exact pe_non
  | bl b =>
    cases py <;> first | (exfalso; revert hm; simp [mHA]; done) | skip
    rename_i v _ _
    cases v <;> first | (exfalso; revert hm; simp [mHA]; done) | skip
    simp only [mHA, decide_eq_true_eq] at hm
    subst hm
    exact pe_bl
  | isi c => exact isi_pe h (by simpa [mHA] using hm)
end
end Bide
namespace Bide
open PySem L2 PySem.Spec PyProof.Rows
/-- the fields that a branch reads -/
def fldsA : HA → List (Nat × String)
  | .fld j f => [(j, f)]
  | _ => []
def fldsX : HX → List (Nat × String)
  | .one a => fldsA a
  | .tup as => as.flatMap fldsA
  | .lst as => as.flatMap fldsA
section
variable {X : Cx} {N : List Str} {ca : String → Option Addr} {xf : String → List String} {x : String} {n : Str} {i : Nat} {C a : Addr} {oe : Obj} {dd : Option Addr} {pn : List (Addr × Obj)}
theorem fdA_in {K : PySem.W.Frag} {mg : Str → Option Value} (hx : XcOk K mg ca xf) {cs : List String} {p : HA} (h : fdA xf cs p = true) (hs : ∀ y ∈ cs, subX x y = true) : ∀ q ∈ fldsA p, (xf x)[q.1]? = some q.2 := by
  cases p with
  | fld j f =>
    intro q hq
    cases List.mem_singleton.mp hq
    simp only [fdA, List.any_eq_true, Bool.and_eq_true, decide_eq_true_eq] at h
    obtain ⟨y, hy, h1, h2⟩ := h
    have l := hx.lef y h1
    have e := hs y hy
    rw [subX_leaf l.1 l.2] at e
    rw [of_decide_eq_true e]
    exact h2
  | _ => intro q hq; cases hq
theorem fdX_in {K : PySem.W.Frag} {mg : Str → Option Value} (hx : XcOk K mg ca xf) {cs : List String} {p : HX} (h : fdX xf cs p = true) (hs : ∀ y ∈ cs, subX x y = true) : ∀ q ∈ fldsX p, (xf x)[q.1]? = some q.2 := by
  cases p with
  | one a => exact fdA_in hx h hs
  | tup as =>
    intro q hq
    obtain ⟨p, hp, hq⟩ := List.mem_flatMap.mp hq
    exact fdA_in hx (List.all_eq_true.mp h p hp) hs q hq
  | lst as =>
    intro q hq
    obtain ⟨p, hp, hq⟩ := List.mem_flatMap.mp hq
    exact fdA_in hx (List.all_eq_true.mp h p hp) hs q hq
theorem mHA_noStar {sc : Scope} {p : HA} {py : Expr} (h : mHA xf sc n p py = true) : noStar py = true := by
  cases py <;> first | rfl | (exfalso; revert h; cases p <;> simp [mHA,mIsi])
theorem hAs_pa (h : HOk1 X N ca xf x n i C a oe dd pn) : ∀ {ps : List HA} {es : List Expr}, mHAs xf X.env.scope n ps es = true → (∀ q ∈ ps.flatMap fldsA, q.2 ∈ xf x) → PA (X.suite a ((a, oe) :: pn)) es (tHAs x C a (.ref C) dd i ps)
  | [], [], _, _ => pa_nil
  | [], _ :: _, hm, _ => by simp [mHAs] at hm
  | _ :: _, [], hm, _ => by simp [mHAs] at hm
  | p :: ps, e :: es, hm, hf => by
    simp only [mHAs, Bool.and_eq_true] at hm
    exact pa_cons (hA_pe h hm.1 fun j f e => hf (j, f) (by subst e; simp [fldsA])) (hAs_pa h hm.2 fun q hq => hf q (by rw [List.flatMap_cons]; exact List.mem_append_right _ hq)) (star_of (mHA_noStar hm.1))
theorem hX_ps (h : HOk1 X N ca xf x n i C a oe dd pn) {p : HX} {py : Expr} {rp : Pos} (hm : mHX xf X.env.scope n p py = true) (hf : ∀ q ∈ fldsX p, q.2 ∈ xf x) : PSs (X.suite a ((a, oe) :: pn)) [.Return (some py) rp] (tHX x C a (.ref C) dd i p) := by
  cases p with
  | one p =>
    refine ⟨fun pins s σ H D I hh => (pss_cons (ps_ret (hA_pe h (by simpa [mHX] using hm) fun j f e => hf (j, f) (by subst e; simp [fldsX,fldsA]))) pss_nil).run pins s σ H D I hh⟩
  | tup ps =>
    cases py <;> first | (exfalso; revert hm; simp [mHX]; done) | skip
    refine ⟨fun pins s σ H D I hh => (pss_cons (ps_ret (pe_tup (hAs_pa h (by simpa [mHX] using hm) hf))) pss_nil).run pins s σ H D I hh⟩
  | lst ps =>
    cases py <;> first | (exfalso; revert hm; simp [mHX]; done) | skip
    refine ⟨fun pins s σ H D I hh => (pss_cons (ps_ret (pe_lst (hAs_pa h (by simpa [mHX] using hm) hf))) pss_nil).run pins s σ H D I hh⟩
theorem isi_pt (h : HOk1 X N ca xf x n i C a oe dd pn) {c : String} {py : Expr} (hm : mIsi xf X.env.scope n c py = true) : PT (X.suite a ((a, oe) :: pn)) py (fun σ H Q => heldX a dd i σ H ∧ Q (subX x c) H) := by
  have hp := isi_pe h hm
  have hv : ∀ whole, isTrue py (X.suite a ((a, oe) :: pn)).env whole = (do let v ← whole; standAt py.pos; holding [v] (truthy v)) := by
    unfold mIsi at hm
    split at hm
    · intro _; rfl
    · cases hm
  exact ⟨fun pins s σ H Q I hh => (pt_val hp hv).run pins s σ H Q I ⟨hh.1, _, rfl, hh.2⟩⟩
theorem cs_pt (h : HOk1 X N ca xf x n i C a oe dd pn) {cs : List String} {py : Expr} (hm : mCs xf X.env.scope n cs py = true) : PT (X.suite a ((a, oe) :: pn)) py (fun σ H Q => heldX a dd i σ H ∧ Q (cs.all (subX x)) H) := by
  unfold mCs at hm
  split at hm
  · exact ⟨fun pins s σ H Q I hh => (isi_pt h hm).run pins s σ H Q I ⟨hh.1, by simpa using hh.2⟩⟩
  · rename_i c1 c2 p q pos
    simp only [Bool.and_eq_true] at hm
    refine ⟨fun pins s σ H Q I hh => (pw_and (isi_pt h hm.1) (pw_and1 (isi_pt h hm.2))).pt.run pins s σ H Q I ⟨hh.1, ?_⟩⟩
    have h2 := hh.2
    cases e : subX x c1 with
    | true => exact ⟨hh.1, by simpa [e] using h2⟩
    | false => simpa [e] using h2
  · cases hm
theorem mHB_nil {sc : Scope} {el : HX} {sts : List Stmt} (h : mHB xf sc n [] el sts = true) : ∃ py rp, sts = [.Return (some py) rp] ∧ mHX xf sc n el py = true := by
  unfold mHB at h
  split at h
  · rename_i h1 _
    exact ⟨_, _, rfl, h⟩
  · rename_i h1
    cases h1
  · cases h
theorem mHB_cons {sc : Scope} {cs : List String} {hx : HX} {ts : List (List String × HX)} {el : HX} {sts : List Stmt} (h : mHB xf sc n ((cs, hx) :: ts) el sts = true) :
    ∃ py1 py rp pos rest, sts = .If py1 [.Return (some py) rp] [] pos :: rest ∧ mCs xf sc n cs py1 = true ∧ mHX xf sc n hx py = true ∧ mHB xf sc n ts el rest = true := by
  unfold mHB at h
  split at h
  · rename_i h1
    cases h1
  · rename_i h1
    cases h1
    simp only [Bool.and_eq_true] at h
    exact ⟨_, _, _, _, _, rfl, h.1, h.2.1, h.2.2⟩
  · cases h
theorem hB_ps (h : HOk1 X N ca xf x n i C a oe dd pn) {c : String} (hc : subX x c = true) : ∀ {ts : List (List String × HX)} {el : HX} {sts : List Stmt}, mHB xf X.env.scope n ts el sts = true → fdB xf c ts el = true → PSs (X.suite a ((a, oe) :: pn)) sts (tHB x C a (.ref C) dd i ts el)
  | [], el, sts, hm, hf => by
    obtain ⟨py, rp, rfl, hm⟩ := mHB_nil hm
    refine hX_ps h hm fun q hq => ?_
    exact List.mem_of_getElem? (fdX_in h.xc (cs := [c]) (by simpa [fdB] using hf) (fun y hy => by cases List.mem_singleton.mp hy; exact hc) q hq)
  | (cs, hx) :: ts, el, sts, hm, hf => by
    obtain ⟨py1, py, rp, pos, rest, rfl, m1, m2, m3⟩ := mHB_cons hm
    simp only [fdB, Bool.and_eq_true] at hf
    have ih := hB_ps h hc m3 hf.2
    by_cases hb : cs.all (subX x) = true
    · have hth := hX_ps (rp := rp) h m2 fun q hq => List.mem_of_getElem? (fdX_in h.xc hf.1 (fun y hy => by
        rcases List.mem_cons.mp hy with rfl | hy
        · exact hc
        · exact List.all_eq_true.mp hb y hy) q hq)
      refine ⟨fun pins s σ H D I hh => (pss_cons (ps_if (cs_pt h m1) hth pss_nil) ih).run pins s σ H D I ?_⟩
      obtain ⟨h1, h2⟩ := hh
      rw [if_pos hb] at h2
      refine ⟨h1, ?_⟩
      dsimp only
      rw [if_pos hb]
      revert h2
      cases hx <;> exact fun z => z
    · have hth : PSs (X.suite a ((a, oe) :: pn)) [.Return (some py) rp] (fun _ _ _ => False) := ⟨fun _ _ _ _ _ _ z => z.elim⟩
      refine ⟨fun pins s σ H D I hh => (pss_cons (ps_if (cs_pt h m1) hth pss_nil) ih).run pins s σ H D I ?_⟩
      obtain ⟨h1, h2⟩ := hh
      rw [if_neg hb] at h2
      refine ⟨h1, ?_⟩
      dsimp only
      rw [if_neg hb]
      exact h2
end
/-! ### the clauses -/
inductive LkC (ca : String → Option Addr) (xf : String → List String) : List Hd → List Cls → Prop
  | nil : LkC ca xf [] []
  | cons {h : Hd} {hs : List Hd} {qs : List Cls} {i : Nat} {C : Addr} (hp : h.sl = some i) (hC : ca h.c = some C) (hf : fdB xf h.c h.ts h.el = true) (hl : smB h.ts h.el = true) (r : LkC ca xf hs qs) : LkC ca xf (h :: hs) ((.ref C, i, tHd ca h i) :: qs)
theorem kindOf_loc' {env : Env} {n : Str} (hk : env.scope.kind = .function) (h : env.scope.names.lookup n = some .local) : env.kindOf n = some .local := by
  unfold Env.kindOf
  simp [h]
theorem mHds_lk {w : Wd} {k : Nat} {N : List Str} {xs : List String} {X : Cx} (hS : XSt w k N xs X) : ∀ {hs : List Hd} {es : List ExceptHandler}, mHds N w.xf X.env.scope hs es = true → ∃ qs, LkC (clsOf w.ca) w.xf hs qs ∧ Clauses X es qs
  | [], [], _ => ⟨[], .nil, .nil⟩
  | [], _ :: _, h => by simp [mHds] at h
  | _ :: _, [], h => by simp [mHds] at h
  | hd :: hs, e :: es, h => by
    simp only [mHds, Bool.and_eq_true] at h
    obtain ⟨qs, l, c⟩ := mHds_lk hS h.2
    have hm := h.1
    unfold mHd at hm
    split at hm
    · rename_i i y n sts h1 h2
      simp only [Bool.and_eq_true, decide_eq_true_eq] at hm
      obtain ⟨n1, n2, n3, n4, n5, n6, n7, n8, n9, n10, n11, n12⟩ := hm
      obtain ⟨np, hp, b, bs, rfl, rfl⟩ := ehQ_eq h2
      cases isN_eq n1
      have hC : ∃ C, clsOf w.ca hd.c = some C := by
        unfold knC at n8
        simp only [Bool.or_eq_true, Bool.and_eq_true, decide_eq_true_eq] at n8
        rcases n8 with q | q | ⟨q', q | q⟩
        · exact hS.xc.has _ q
        · exact absurd q n9
        · rw [q']; exact hS.xc.bas _ q
        · rw [q']; exact hS.xc.bas _ q
      obtain ⟨C, hC⟩ := hC
      refine ⟨_, .cons h1 hC n11 n12 l, .cons ⟨glb_gl n2, okN1 n3, .inl (hS.xc.mgx _ C hC)⟩ (by rw [hS.x.N]; exact n4) (kindOf_loc' hS.kind n7) (fun a oe cls d pn hz hf => ?_) c⟩
      refine ⟨fun pins s σ H D I ⟨x, Cx, e1, e2, e3, e4⟩ => ?_⟩
      subst e2
      exact (hB_ps (x := x) (C := Cx) (dd := d) ⟨hS.x.N, hS.x.blt, hS.xc, e1, n4, n5, n6, hz, hf⟩ e3 n10 n11).run pins s σ H D I e4
    · cases hm
section
variable {w : Wd} {k : Nat} {N : List Str} {xs : List String} {X : Cx} {σ1 : L2.St} {H1 Z1 : Hp} {e1 : Ev} {A1 : Nat → List Addr} {e : Exc} {C a d : Addr} {fs : List (Str × V)} {i : Nat}
theorem tHA_ok (hil : i < σ1.length) (hd : H1 d = some (.xd fs)) (hfs : ∀ (j : Nat) n y, (w.xf e.c)[j]? = some n → e.fs[j]? = some y → ∃ v, fs.lookup (sN n) = some v ∧ Rp w.K Z1 v y) {p : HA} (hf : ∀ q ∈ fldsA p, (w.xf e.c)[q.1]? = some q.2) {y : D} (hy : evHA e p = some y) {Q : VK}
    (h : ∀ v, Rp w.K Z1 v y → Q v H1) : tHA e.c C a (.ref C) (some d) i p (σ1.set i (some (.ref a))) H1 Q := by
  have hvar : (σ1.set i (some (.ref a)))[i]? = some (some (V.ref a)) := by rw [List.getElem?_set_self hil]
  cases p with
  | fld j f =>
    obtain ⟨v, v1, v2⟩ := hfs j f y (hf (j, f) (by simp [fldsA])) hy
    exact ⟨_, hvar, rfl, rfl, d, fs, v, rfl, hd, v1, h v v2⟩
  | str s => simp only [evHA, Option.some.injEq] at hy; subst hy; exact h _ (.str _)
  | non => simp only [evHA, Option.some.injEq] at hy; subst hy; exact h _ .non
  | bl b => simp only [evHA, Option.some.injEq] at hy; subst hy; exact h _ (.bl _)
  | isi c => simp only [evHA, Option.some.injEq] at hy; subst hy; exact ⟨⟨hvar, fun d' e' => by cases e'; exact ⟨fs, hd⟩⟩, h _ (.bl _)⟩
theorem tHAs_ok (hil : i < σ1.length) (hd : H1 d = some (.xd fs)) (hfs : ∀ (j : Nat) n y, (w.xf e.c)[j]? = some n → e.fs[j]? = some y → ∃ v, fs.lookup (sN n) = some v ∧ Rp w.K Z1 v y) : ∀ {ps : List HA} {ys : List D} {Q : List V → Hp → Prop}, (∀ q ∈ ps.flatMap fldsA, (w.xf e.c)[q.1]? = some q.2) → evHAs e ps = some ys →
    (∀ vs, Rps w.K Z1 vs ys → Q vs H1) → tHAs e.c C a (.ref C) (some d) i ps (σ1.set i (some (.ref a))) H1 Q
  | [], ys, Q, _, hy, h => by
    simp only [evHAs, Option.some.injEq] at hy
    subst hy
    exact h [] .nil
  | p :: ps, ys, Q, hf, hy, h => by
    simp only [evHAs] at hy
    split at hy
    · rename_i y ys' h1 h2
      cases hy
      refine tHA_ok hil hd hfs (fun q hq => hf q (by rw [List.flatMap_cons]; exact List.mem_append_left _ hq)) h1 fun v rv => ?_
      exact tHAs_ok hil hd hfs (fun q hq => hf q (by rw [List.flatMap_cons]; exact List.mem_append_right _ hq)) h2 fun vs rvs => h _ (.cons rv rvs)
    · cases hy
theorem evHAs_len : ∀ {ps : List HA} {ys : List D}, evHAs e ps = some ys → ys.length = ps.length
  | [], ys, hy => by simp only [evHAs, Option.some.injEq] at hy; subst hy; rfl
  | p :: ps, ys, hy => by
    simp only [evHAs] at hy
    split at hy
    · rename_i y ys' h1 h2
      cases hy
      simp [evHAs_len h2]
    · cases hy
theorem tHX_ok (R1 : RS w.K w.c σ1 H1 Z1 e1 A1) (hil : i < σ1.length) (hd : H1 d = some (.xd fs)) (hfs : ∀ (j : Nat) n y, (w.xf e.c)[j]? = some n → e.fs[j]? = some y → ∃ v, fs.lookup (sN n) = some v ∧ Rp w.K Z1 v y) {p : HX} (hf : ∀ q ∈ fldsX p, (w.xf e.c)[q.1]? = some q.2) (hl : smX p = true)
    {r : RV} (hr : evHX e p = some r) {De De' : Ends} (g : Give w.K Z1 H1 r De.rt) (hD : De'.rt = De.rt) : tHX e.c C a (.ref C) (some d) i p De' (σ1.set i (some (.ref a))) H1 := by
  rw [← hD] at g
  cases p with
  | one p =>
    simp only [evHX] at hr
    cases hy : evHA e p with
    | none => rw [hy] at hr; cases hr
    | some y =>
      rw [hy] at hr
      cases hr
      exact tHA_ok hil hd hfs hf hy fun v rv => g.v R1.sub rv
  | tup ps =>
    simp only [evHX] at hr
    cases hy : evHAs e ps with
    | none => rw [hy] at hr; cases hr
    | some ys =>
      rw [hy] at hr
      cases hr
      refine tHAs_ok hil hd hfs hf hy fun vs rvs => ?_
      have hn : vs.length ≤ sizeLine := by
        rw [rvs.length, evHAs_len hy, sizeLine_eq]
        have : ps.length ≤ 100 := by simpa [smX] using hl
        omega
      exact ⟨hn, fun p hp => g.tup R1.sub hn rvs hp⟩
  | lst ps =>
    simp only [evHX] at hr
    cases hy : evHAs e ps with
    | none => rw [hy] at hr; cases hr
    | some ys =>
      rw [hy] at hr
      cases hr
      refine tHAs_ok hil hd hfs hf hy fun vs rvs => ?_
      have hn : vs.length ≤ sizeLine := by
        rw [rvs.length, evHAs_len hy, sizeLine_eq]
        have : ps.length ≤ 100 := by simpa [smX] using hl
        omega
      exact ⟨hn, fun p hp => g.lst R1.sub hn rvs hp⟩
theorem tHB_ok (hS : XSt w k N xs X) (R1 : RS w.K w.c σ1 H1 Z1 e1 A1) (hil : i < σ1.length) (hd : H1 d = some (.xd fs)) (hfs : ∀ (j : Nat) n y, (w.xf e.c)[j]? = some n → e.fs[j]? = some y → ∃ v, fs.lookup (sN n) = some v ∧ Rp w.K Z1 v y) {c : String} (hc : subX e.c c = true) {r : RV} {De De' : Ends} (g : Give w.K Z1 H1 r De.rt) (hD : De'.rt = De.rt) :
    ∀ {ts : List (List String × HX)} {el : HX}, fdB w.xf c ts el = true → smB ts el = true → evHB e ts el = some r → tHB e.c C a (.ref C) (some d) i ts el De' (σ1.set i (some (.ref a))) H1
  | [], el, hf, hl, hr => tHX_ok R1 hil hd hfs (fdX_in hS.xc (cs := [c]) (by simpa [fdB] using hf) fun y hy => by cases List.mem_singleton.mp hy; exact hc) (by simpa [smB] using hl) (by simpa [evHB] using hr) g hD
  | (cs, hx) :: ts, el, hf, hl, hr => by
    simp only [fdB, Bool.and_eq_true] at hf
    simp only [smB, Bool.and_eq_true] at hl
    simp only [evHB] at hr
    refine ⟨⟨by rw [List.getElem?_set_self hil], fun d' e' => by cases e'; exact ⟨fs, hd⟩⟩, ?_⟩
    by_cases hb : cs.all (subX e.c) = true
    · rw [if_pos hb] at hr ⊢
      exact tHX_ok R1 hil hd hfs (fdX_in hS.xc hf.1 fun y hy => by
        rcases List.mem_cons.mp hy with rfl | hy
        · exact hc
        · exact List.all_eq_true.mp hb y hy) hl.1 hr g hD
    · rw [if_neg hb] at hr ⊢
      exact tHB_ok hS R1 hil hd hfs hc g hD hf.2 hl.2 hr
/-- what the clauses make of an exception -/
theorem lk_takes {cls : Value} {dd : Option Addr} {De : Ends} (hS : XSt w k N xs X) (R1 : RS w.K w.c σ1 H1 Z1 e1 A1) (hex : ExOk w.K w.ca w.xf e cls dd H1 Z1) :
    ∀ {hs : List Hd} {qs : List Cls}, LkC (clsOf w.ca) w.xf hs qs → slotsB e1 hs = true → (match evHds e hs with
      | some (some r) => Give w.K Z1 H1 r De.rt
      | some none => w.W cls dd σ1 H1
      | none => False) → takes w.K w.W De qs cls dd σ1 H1
  | _, _, .nil, _, h => h
  | _, _, .cons (h := hd) (hs := hs) (i := i) (C := C) hp hC hf hl r, hsl, h => by
    obtain ⟨Cx, d, fs, q1, q2, q3, q4, q5⟩ := id hex
    have hexm := hS.xc.exm e.c hd.c Cx C q1 hC
    rw [hS.x.K] at hexm
    simp only [slotsB, List.all_cons, Bool.and_eq_true] at hsl
    rw [hp] at hsl
    have hil : i < σ1.length := by rw [R1.len]; exact of_decide_eq_true hsl.1
    refine ⟨subX e.c hd.c, by rw [q2]; exact hexm, fun yes a ha => ?_, fun no => ?_⟩
    · simp only [evHds, yes, if_true] at h
      cases hr : evHB e hd.ts hd.el with
      | none => rw [hr] at h; exact h.elim
      | some r' =>
        rw [hr] at h
        subst q2 q3
        exact ⟨e.c, Cx, q1, rfl, yes, tHB_ok (De := De) (De' := gone i De) hS R1 hil q4 q5 yes h rfl hf hl hr⟩
    · refine lk_takes hS R1 hex r hsl.2 ?_
      simp only [evHds, no, Bool.false_eq_true, if_false] at h
      exact h
end
end Bide

set_option autoImplicit false
set_option Elab.async false
set_option maxRecDepth 100000
set_option linter.all false
set_option maxHeartbeats 4000000
/-! The soundness of statements. -/
namespace Bide
open PySem L2
section
variable {w : Wd} {k : Nat} {N : List Str} {xs : List String} {X : Cx}
/-- rows[..] = .. -/
theorem sti_ok {i : Nat} {a v : E} {x : Str} {py1 py2 : Expr} {xp p pos : Pos} (hS : XSt w k N xs X) (tk : Takes X w.W) (h1 : rdSlot N X.env.scope i x = true) (h2 : mE N w.ren a X.env.scope py1 = true) (h3 : mE N w.ren v X.env.scope py2 = true) :
    PS X (.Assign [.Subscript (.Name x xp) py1 p] py2 pos) (semS w (.sti i a v)) := by
  refine ⟨fun pins s σ H De I h => (ps_asg (sndE v hS.x tk h3) (pg_sub (rd_slot hS.x.N h1) (sndE a hS.x tk h2) set_list (assign_sub (mE_noStar h2))) sole_sub stores_sub rfl).run pins s σ H De I ?_⟩
  obtain ⟨ev, Z, A, R, h⟩ := h
  simp only [evS] at h
  refine semE_mono (stm1 R h) fun y H1 ⟨r, e1, Z1, A1, s1, R1, q1, h1⟩ => ?_
  split at h1
  · rename_i d e2 hd
    obtain ⟨Z2, A2, s2, R2, rp⟩ := R1.esc q1 hd
    have h1 := h1.same s2
    split at h1
    · rename_i xs0 h0
      obtain ⟨a0, _, ea, _⟩ := spot R2 h0
      refine ⟨.ref a0, ea, semE_mono (stm1 R2 h1) fun z H2 ⟨q, e3, Z3, A3, s3, R3, q3, h3⟩ => ?_⟩
      split at h3
      · rename_i j xs hj hx
        obtain ⟨a1, ys, ea', e2', g1, g2, g3, g4⟩ := spot R3 hx
        rw [ea] at ea'
        cases ea'
        cases (R3.rdv q3 hj).int
        split at h3
        · rename_i zs hz
          obtain ⟨n, hn, hlt, rfl⟩ := setAt_ix hz
          rw [← g3.length] at hn
          refine ⟨a0, ys, j, n, rfl, rfl, g1, hn, ?_⟩
          have R4 := g4 (upd H2 a0 (.lst (ys.set n y))) _ (xs.set n d) (fun b hb => upd_ne hb) upd_same (by rw [List.length_set]; exact g2) (g3.set n (rp.mono s3))
          exact h3 σ _ Z3 A3 (Same.refl _) R4
        · exact h3.elim
      · exact h3.elim
    · exact h1.elim
  · exact h1.elim
theorem slot_rd {σ : L2.St} {H Z : Hp} {ev : Ev} {A : Nat → List Addr} {j : Nat} {d : D} (R : RS w.K w.c σ H Z ev A) (hj : rd ev (.s j) = some d) : ∃ x, σ[j]? = some (some x) ∧ RdV w.K Z H x d := by
  cases hsj : ev[j]? with
  | none => simp only [rd, hsj] at hj; cases hj
  | some sv =>
    have q := R.sl j sv hsj
    have hx : ∃ x, σ[j]? = some (some x) := by
      cases sv with
      | no => simp only [rd, hsj] at hj; cases hj
      | sh d => obtain ⟨_, v, q, _⟩ := q; exact ⟨v, q⟩
      | ow o => obtain ⟨a, q, _⟩ := q; exact ⟨_, q⟩
      | io ds => obtain ⟨a, q, _⟩ := q; exact ⟨_, q⟩
    obtain ⟨x, hx⟩ := hx
    exact ⟨x, hx, R.rdv (r := .s j) hx hj⟩
/-- rows[..][..] = .. -/
theorem st2_ok {i j : Nat} {a v : E} {x y : Str} {py1 py2 : Expr} {xp yp p1 p pos : Pos} (hS : XSt w k N xs X) (tk : Takes X w.W) (h1 : rdSlot N X.env.scope i x = true) (h2 : mE N w.ren a X.env.scope py1 = true) (hy : rdSlot N X.env.scope j y = true) (h3 : mE N w.ren v X.env.scope py2 = true) :
    PS X (.Assign [.Subscript (.Subscript (.Name x xp) py1 p1) (.Name y yp) p] py2 pos) (semS w (.st2 i a j v)) := by
  refine ⟨fun pins s σ H De I h => (ps_asg (sndE v hS.x tk h3) (pg_sub (pe_ix ix_list (rd_slot hS.x.N h1) (sndE a hS.x tk h2) (sub_of (mE_noStar h2))) (rd_slot hS.x.N hy) set_list (assign_sub rfl)) sole_sub stores_sub rfl).run pins s σ H De I ?_⟩
  obtain ⟨ev, Z, A, R, h⟩ := h
  simp only [evS] at h
  refine semE_mono (stm1 R h) fun val H1 ⟨r, e1, Z1, A1, s1, R1, q1, h1⟩ => ?_
  split at h1
  · rename_i d e2 hd
    obtain ⟨Z2, A2, s2, R2, rp⟩ := R1.esc q1 hd
    have h1 := h1.same s2
    split at h1
    · rename_i xs0 h0
      obtain ⟨_, a0, _, ea, _⟩ := ll_spot R2 h0
      refine ⟨.ref a0, ea, semE_mono (stm1 R2 h1) fun z H2 ⟨q, e3, Z3, A3, s3, R3, q3, h3⟩ => ?_⟩
      split at h3
      · rename_i m xss n hm hl hn
        obtain ⟨hs, a1, bs, ea', eA, g1, g2, g3, g4⟩ := ll_spot R3 hl
        rw [ea] at ea'
        cases ea'
        cases (R3.rdv q3 hm).int
        split at h3
        · rename_i ys hx
          obtain ⟨kk, b, vs, w0, w1, w1', w2, w3, w4, w5⟩ := ll_at g3 g4 hx
          split at h3
          · rename_i zs hz
            obtain ⟨n', hn', hlt, rfl⟩ := setAt_ix hz
            split at h3
            · rename_i yss hy
              obtain ⟨m', hm', hlt', rfl⟩ := setAt_ix hy
              rw [w0] at hm'
              cases hm'
              obtain ⟨x, hx, rx⟩ := slot_rd R3 hn
              cases rx.int
              rw [← w5.length] at hn'
              refine ⟨a0, _, _, _, rfl, rfl, .inl (.inl g1), w2, _, hx, b, vs, n, n', rfl, rfl, w3, hn', ?_⟩
              have nd := R3.nod i
              rw [eA] at nd
              have nd' := List.nodup_cons.mp nd
              have hb : b ∈ bs := List.mem_of_getElem? w1
              have hab : a0 ≠ b := fun e => nd'.1 (by rw [e]; exact hb)
              have R4 := R3.change (sw := .ow (.ll (xss.set kk (ys.set n' d)))) (H' := upd H2 b (.lst (vs.set n' val))) hs (.inl ⟨id, id⟩) (fun c hc => upd_ne fun e => hc (by rw [eA, e]; simp [hb]))
                ⟨a0, ea, by
                  refine ⟨bs, eA, ?_, g2, by rw [List.length_set]; exact g3, fun t c ds e1 e2 => ?_⟩
                  · rw [upd_ne hab]; exact g1
                  · by_cases ht : t = kk
                    · subst ht
                      rw [w1] at e1
                      cases e1
                      rw [List.getElem?_set_self hlt'] at e2
                      cases e2
                      exact ⟨_, upd_same, by rw [List.length_set]; exact w4, w5.set n' (rp.mono s3)⟩
                    · rw [List.getElem?_set_ne (Ne.symm ht)] at e2
                      obtain ⟨us, u1, u2, u3⟩ := g4 t c ds e1 e2
                      refine ⟨us, ?_, u2, u3⟩
                      rw [upd_ne ?_]
                      · exact u1
                      · intro e
                        subst e
                        have l1 := (List.getElem?_eq_some_iff.mp e1)
                        have l2 := (List.getElem?_eq_some_iff.mp w1)
                        exact ht ((List.getElem?_inj l1.1 nd'.2).mp (e1.trans w1.symm))⟩
              exact h3 σ _ Z3 A3 (Same.refl _) R4
            · exact h3.elim
          · exact h3.elim
        · exact h3.elim
      · exact h3.elim
    · exact h1.elim
  · exact h1.elim
/-- d[..] = .. -/
theorem std_ok {i : Nat} {a v : E} {x : Str} {py1 py2 : Expr} {xp p pos : Pos} (hS : XSt w k N xs X) (tk : Takes X w.W) (h1 : rdSlot N X.env.scope i x = true) (h2 : mE N w.ren a X.env.scope py1 = true) (h3 : mE N w.ren v X.env.scope py2 = true) :
    PS X (.Assign [.Subscript (.Name x xp) py1 p] py2 pos) (semS w (.std i a v)) := by
  refine ⟨fun pins s σ H De I h => (ps_dput (by have := hS.x.units; omega) (rd_slot hS.x.N h1) (sndE a hS.x tk h2) (sndE v hS.x tk h3) swap_sub).run pins s σ H De I ?_⟩
  obtain ⟨ev, Z, A, R, h⟩ := h
  simp only [evS] at h
  refine semE_mono (stm1 R h) fun y H1 ⟨r, e1, Z1, A1, s1, R1, q1, h1⟩ => ?_
  split at h1
  · rename_i d e2 hd
    obtain ⟨Z2, A2, s2, R2, rp⟩ := R1.esc q1 hd
    have h1 := h1.same s2
    split at h1
    · rename_i o0 h0
      obtain ⟨a0, ea, _⟩ := R2.sl i _ h0
      refine ⟨.ref a0, ea, semE_mono (stm1 R2 h1) fun z H2 ⟨q, e3, Z3, A3, s3, R3, q3, h3⟩ => ?_⟩
      split at h3
      · rename_i kd e4 hk
        obtain ⟨Z4, A4, s4, R4, rk⟩ := R3.esc q3 hk
        split at h3
        · rename_i t kvs hs
          split at h3
          · rename_i hok
            obtain ⟨a1, ea', oc⟩ := R4.sl i _ hs
            rw [ea] at ea'
            cases ea'
            have rp' := rp.mono (s3.trans s4)
            have hin : ∀ b, b ∉ A4 i → b ≠ a0 := fun b hb e => hb (by rw [e]; exact oc.mem)
            obtain ⟨eA, H8, pu, keep, oc8⟩ := oc.putd R4.sub rk rp' hok.1 (by rw [← line_eq]; exact hok.2)
            exact ⟨a0, H8, rfl, pu, h3 σ _ Z4 A4 s4 (R4.change (sw := .ow (.d t (putKV kvs kd d))) hs (.inl ⟨id, id⟩) (fun b hb => keep b (hin b hb)) ⟨a0, ea, by rw [eA] at oc8 ⊢; exact oc8⟩)⟩
          · exact h3.elim
        · exact h3.elim
      · exact h3.elim
    · exact h1.elim
  · exact h1.elim
end
def trParts : Stmt → Option (Str × Str × Expr × List Stmt)
  | .Try body [.ExceptHandler (some (.Name y _)) (some n) [.Return (some py) _] _] [] [] _ => some (y, n, py, body)
  | _ => none
theorem trParts_eq {st : Stmt} {y n : Str} {py : Expr} {body : List Stmt} (h : trParts st = some (y, n, py, body)) : ∃ np rp hp pos, st = .Try body [.ExceptHandler (some (.Name y np)) (some n) [.Return (some py) rp] hp] [] [] pos := by
  unfold trParts at h
  split at h
  · cases h
    exact ⟨_, _, _, _, rfl⟩
  · cases h
def mHx (xf : String → List String) (x : String) (n : Str) : Hx → Expr → Bool
  | .fld j f, .Attribute (.Name y _) a _ => decide (y = n) && isN a f && decide ((xf x)[j]? = some f)
  | .lst s j f, .List [.Constant (.str z) _ _, .Attribute (.Name y _) a _] _ => decide (z = Str.ofString s) && decide (y = n) && isN a f && decide ((xf x)[j]? = some f)
  | .tup s j f, .Tuple [.Constant (.str z) _ _, .Attribute (.Name y _) a _] _ _ => decide (z = Str.ofString s) && decide (y = n) && isN a f && decide ((xf x)[j]? = some f)
  | _, _ => false
mutual
def mS (N : List Str) (ren : String → String) (xs : List String) (xf : String → List String) : S → Scope → Stmt → Bool
  | .asg i e, sc, st => match st with
    | .Assign [.Name x _] py _ => wrSlot N sc fT i x && mE N ren e sc py
    | _ => false
  | .unp is e, sc, st => parB N ren is e sc st || (match st with
    | .Assign [.Tuple es _ _] py _ => mTgs N sc fT is es && mE N ren e sc py && (notTup py || cellT sc es)
    | _ => false)
  | .unl is e, sc, st => match st with
    | .Assign [.Tuple es _ _] py _ => mTgs N sc fT is es && mE N ren e sc py && notTup py
    | _ => false
  | .sti i a v, sc, st => match st with
    | .Assign [.Subscript (.Name x _) py1 _] py2 _ => rdSlot N sc i x && mE N ren a sc py1 && mE N ren v sc py2
    | _ => false
  | .st2 i a j v, sc, st => match st with
    | .Assign [.Subscript (.Subscript (.Name x _) py1 _) (.Name y _) _] py2 _ => rdSlot N sc i x && mE N ren a sc py1 && rdSlot N sc j y && mE N ren v sc py2
    | _ => false
  | .std i a v, sc, st => match st with
    | .Assign [.Subscript (.Name x _) py1 _] py2 _ => rdSlot N sc i x && mE N ren a sc py1 && mE N ren v sc py2
    | _ => false
  | .xpr e, sc, st => match st with
    | .Expr py _ => mE N ren e sc py && notLc py
    | _ => false
  | .ife t a b, sc, st => match st with
    | .If c p q _ => mT N ren t sc c && mSs N ren xs xf a sc p && mSs N ren xs xf b sc q
    | _ => false
  | .forr tg tup it b, sc, st => match st with
    | .For t iter body [] _ => mTg N sc fT tup tg t && mIt N ren it sc t iter && mSs N ren xs xf b sc body
    | _ => false
  | .fork tg tup i b, sc, st => match st with
    | .For t (.Name x _) body [] _ => mTg N sc fT tup tg t && rdSlot N sc i x && mSs N ren xs xf b sc body
    | _ => false
  | .whl _ t b, sc, st => match st with
    | .While c body [] _ => mT N ren t sc c && mSs N ren xs xf b sc body
    | _ => false
  | .ret e, sc, st => match st with
    | .Return (some py) _ => mE N ren e sc py
    | _ => false
  | .retN, _, st => match st with
    | .Return none _ => true
    | _ => false
  | .rse n es, sc, st => match st with
    | .Raise (some (.Call (.Name x _) (y :: ys) [] _)) none _ => isN x n && decide (n ∈ xs) && glb sc x && decide (ys.length + 1 = (xf n).length) && mEs N ren es sc (y :: ys)
    | _ => false
  | .trx b x i h, sc, st => match trParts st with
    | some (y, n, py, body) => isN y x && glb sc y && okName y && decide (N[i]? = some n) && vis sc n && okName n && decide (sc.names.lookup n = some .local) && mHx xf x n h py && mSs N ren [] xf b sc body
    | none => false
  | .trm b hs, sc, st => match st with
    | .Try body (h0 :: hds) [] [] _ => mHds N xf sc hs (h0 :: hds) && mSs N ren [] xf b sc body
    | _ => false
  | .unn is js e, sc, st => match st with
    | .Assign [.Tuple (.Tuple es _ _ :: fs) _ _] py _ => mTgs N sc fT is es && mTgs N sc fT js fs && mE N ren e sc py && notTup py
    | _ => false
  | .sw2 i a b v u, sc, st => match st with
    | .Assign [.Tuple [.Subscript (.Name x _) py1 _, .Subscript (.Name x2 _) py2 _] _ _] (.Tuple [py3, py4] k2 p2) _ => rdSlot N sc i x && rdSlot N sc i x2 && mE N ren a sc py1 && mE N ren b sc py2 && mE N ren (.tup (.cons v (.cons u .nil))) sc (.Tuple [py3, py4] k2 p2)
    | _ => false
  | .pass, _, st => match st with
    | .Pass _ => true
    | .Expr (.Constant (.str _) _ _) _ => true
    | _ => false
  | .brk, _, st => match st with
    | .Break _ => true
    | _ => false
  | .cont, _, st => match st with
    | .Continue _ => true
    | _ => false
  | .nev, _, _ => true
def mSs (N : List Str) (ren : String → String) (xs : List String) (xf : String → List String) : Ss → Scope → List Stmt → Bool
  | .nil, _, st => match st with
    | [] => true
    | _ => false
  | .cons a b, sc, st => match st with
    | x :: r => mS N ren xs xf a sc x && mSs N ren xs xf b sc r
    | _ => false
end
def trTs (h : Hx) (i : Nat) (C : Addr) (a : Addr) (cls : Value) (d : Option Addr) : TS := match h with
  | .fld _ f => tRet (tXf a cls d C (sN f) (tVar i))
  | .lst s _ f => tRet (tLst (tCons (tC (.str (Str.ofString s))) (tCons (tXf a cls d C (sN f) (tVar i)) tNil)))
  | .tup s _ f => tRet (tTup (tCons (tC (.str (Str.ofString s))) (tCons (tXf a cls d C (sN f) (tVar i)) tNil)))
def Hx.f : Hx → String
  | .fld _ f => f
  | .lst _ _ f => f
  | .tup _ _ f => f
def Hx.j : Hx → Nat
  | .fld j _ => j
  | .lst _ j _ => j
  | .tup _ j _ => j
theorem mHx_has {K : PySem.W.Frag} {mg : Str → Option Value} {ca : String → Option Addr} {xf : String → List String} {x : String} {n : Str} {h : Hx} {py : Expr} (hx : XcOk K mg ca xf) (hm : mHx xf x n h py = true) : ∃ C, ca x = some C ∧ (xf x)[h.j]? = some h.f ∧ h.f ∈ xf x := by
  have key : (xf x)[h.j]? = some h.f := by
    cases h with
    | fld j f =>
      cases py <;> first | (exfalso; revert hm; simp [mHx]; done) | skip
      rename_i e a p
      cases e <;> first | (exfalso; revert hm; simp [mHx]; done) | skip
      simp only [mHx, Bool.and_eq_true, decide_eq_true_eq] at hm
      exact hm.2
    | lst s j f =>
      cases py <;> first | (exfalso; revert hm; simp [mHx]; done) | skip
      rename_i es p
      match es, hm with
      | [.Constant (.str z) _ _, .Attribute (.Name y _) a _], hm =>
        simp only [mHx, Bool.and_eq_true, decide_eq_true_eq] at hm
        exact hm.2
    | tup s j f =>
      cases py <;> first | (exfalso; revert hm; simp [mHx]; done) | skip
      rename_i es kx p
      match es, hm with
      | [.Constant (.str z) _ _, .Attribute (.Name y _) a _], hm =>
        simp only [mHx, Bool.and_eq_true, decide_eq_true_eq] at hm
        exact hm.2
  obtain ⟨C, hC⟩ := hx.has x (fun q => by rw [q] at key; cases key)
  exact ⟨C, hC, key, List.mem_of_getElem? key⟩
theorem trSuite {X : Cx} {N : List Str} {xf : String → List String} {x : String} {n : Str} {h : Hx} {i : Nat} {C a : Addr} {oe : Obj} {cls : Value} {d : Option Addr} {pn : List (Addr × Obj)} {py : Expr} {rp : Pos} (hN : X.N = N) (h4 : N[i]? = some n) (h5 : vis X.env.scope n = true) (h6 : okName n = true) (T : XfC X.K C) (hno : ∀ f ∈ xf x, PySem.W.findIn X.K (.ref C) (sN f) = some none)
    (hz : Zc cls d oe) (hf : ∃ vs, oe.data = .fields vs) (hm : mHx xf x n h py = true) : PSs (X.suite a ((a, oe) :: pn)) [.Return (some py) rp] (trTs h i C a cls d) := by
  have rd : ∀ pos : Pos, PE (X.suite a ((a, oe) :: pn)) (.Name n pos) (tVar i) := fun pos => rd_slot (X := X.suite a ((a, oe) :: pn)) hN (by unfold rdSlot; simp [h4,h5,h6])
  cases h with
  | fld j f =>
    cases py <;> first | (exfalso; revert hm; simp [mHx]; done) | skip
    rename_i e at_ p
    cases e <;> first | (exfalso; revert hm; simp [mHx]; done) | skip
    simp only [mHx, Bool.and_eq_true, decide_eq_true_eq] at hm
    obtain ⟨⟨rfl, e2⟩, e3⟩ := hm
    cases isN_eq e2
    refine ⟨fun pins s σ H D I h => (pss_cons (ps_ret (pe_xf T (hno f (List.mem_of_getElem? e3)) hz hf (rd _))) pss_nil).run pins s σ H D I h⟩
  | lst z j f =>
    cases py <;> first | (exfalso; revert hm; simp [mHx]; done) | skip
    rename_i es p
    match es, hm with
    | [.Constant (.str z') _ _, .Attribute (.Name y _) at_ _], hm =>
      simp only [mHx, Bool.and_eq_true, decide_eq_true_eq] at hm
      obtain ⟨⟨⟨rfl, rfl⟩, e2⟩, e3⟩ := hm
      cases isN_eq e2
      refine ⟨fun pins s σ H D I h => (pss_cons (ps_ret (pe_lst (pa_cons pe_str (pa_cons (pe_xf T (hno f (List.mem_of_getElem? e3)) hz hf (rd _)) pa_nil)))) pss_nil).run pins s σ H D I h⟩
  | tup z j f =>
    cases py <;> first | (exfalso; revert hm; simp [mHx]; done) | skip
    rename_i es kx p
    match es, hm with
    | [.Constant (.str z') _ _, .Attribute (.Name y _) at_ _], hm =>
      simp only [mHx, Bool.and_eq_true, decide_eq_true_eq] at hm
      obtain ⟨⟨⟨rfl, rfl⟩, e2⟩, e3⟩ := hm
      cases isN_eq e2
      refine ⟨fun pins s σ H D I h => (pss_cons (ps_ret (pe_tup (pa_cons pe_str (pa_cons (pe_xf T (hno f (List.mem_of_getElem? e3)) hz hf (rd _)) pa_nil)))) pss_nil).run pins s σ H D I h⟩
theorem RS.giveS {K : PySem.W.Frag} {c : En} {σ : L2.St} {H Z : Hp} {ev : Ev} {A : Nat → List Addr} (R : RS K c σ H Z ev A) {De : Ends} {w : Wd} {r : RV} (hw : w.K = K) (hc : w.c = c) (h : OutS w Z (.ok (.rt r) ev) De) : Give K Z H r De.rt := by
  subst hw hc
  intro x Z' H' g n
  refine h σ H' Z' A x g.zz (R.ext g.zz g.sub g.zf g.nt g.hh) ?_
  cases r with
  | v d => exact n
  | s i => exact n.elim
  | f o =>
    obtain ⟨a, as, e, oc, nd, hb⟩ := n
    exact ⟨a, as, e, oc, nd, fun b hm => ⟨(hb b hm).1, R.dead (hb b hm).2, R.fFree (hb b hm).2, fun i hi => R.alive hi (hb b hm).2⟩⟩

theorem kindOf_loc {env : Env} {n : Str} (hk : env.scope.kind = .function) (h : env.scope.names.lookup n = some .local) : env.kindOf n = some .local := by
  unfold Env.kindOf
  simp [h]
/-- what a clause that returns at once makes of an exception -/
theorem trTs_ok {w : Wd} {σ1 : L2.St} {H1 Z1 : Hp} {e1 : Ev} {A1 : Nat → List Addr} {x : String} {C a : Addr} {cls : Value} {dd : Option Addr} {h : Hx} {i : Nat} {e : Exc} {r : RV} {De De' : Ends}
    (R1 : RS w.K w.c σ1 H1 Z1 e1 A1) (hil : i < σ1.length) (hcx : e.c = x) (hC : clsOf w.ca x = some C) (hj : (w.xf x)[h.j]? = some h.f) (hex : ExOk w.K w.ca w.xf e cls dd H1 Z1) (hr : evHx h e.fs = some r) (g : Give w.K Z1 H1 r De.rt) (hD : De'.rt = De.rt) :
    trTs h i C a cls dd De' (σ1.set i (some (.ref a))) H1 := by
  obtain ⟨Cx, d, fs, q1, q2, q3, q4, q5⟩ := hex
  have hCC : Cx = C := by rw [hcx, hC] at q1; cases q1; rfl
  subst hCC
  have hvar : (σ1.set i (some (.ref a)))[i]? = some (some (V.ref a)) := by rw [List.getElem?_set_self hil]
  rw [← hD] at g
  cases h with
  | fld j f =>
    simp only [evHx] at hr
    cases hy : e.fs[j]? with
    | none => rw [hy] at hr; cases hr
    | some y =>
      rw [hy] at hr
      cases hr
      obtain ⟨v, v1, v2⟩ := q5 j f y (by rw [hcx]; exact hj) hy
      exact ⟨_, hvar, rfl, q2, d, fs, v, q3, q4, v1, g.v R1.sub v2⟩
  | lst z j f =>
    simp only [evHx] at hr
    cases hy : e.fs[j]? with
    | none => rw [hy] at hr; cases hr
    | some y =>
      rw [hy] at hr
      cases hr
      obtain ⟨v, v1, v2⟩ := q5 j f y (by rw [hcx]; exact hj) hy
      refine ⟨_, hvar, rfl, q2, d, fs, v, q3, q4, v1, ?_⟩
      exact ⟨by rw [sizeLine_eq]; simp, fun p hp => g.lst R1.sub (by rw [sizeLine_eq]; simp) (.cons (.str _) (.cons v2 .nil)) hp⟩
  | tup z j f =>
    simp only [evHx] at hr
    cases hy : e.fs[j]? with
    | none => rw [hy] at hr; cases hr
    | some y =>
      rw [hy] at hr
      cases hr
      obtain ⟨v, v1, v2⟩ := q5 j f y (by rw [hcx]; exact hj) hy
      refine ⟨_, hvar, rfl, q2, d, fs, v, q3, q4, v1, ?_⟩
      exact ⟨by rw [sizeLine_eq]; simp, fun p hp => g.tup R1.sub (by rw [sizeLine_eq]; simp) (.cons (.str _) (.cons v2 .nil)) hp⟩
/-! ### two targets more -/
theorem unnB_eq {N : List Str} {ren : String → String} {xs : List String} {xf : String → List String} {is js : List Nat} {e : E} {sc : Scope} {st : Stmt} (hm : mS N ren xs xf (.unn is js e) sc st = true) :
    ∃ es k0 p0 fs kk xp py pos, st = .Assign [.Tuple (.Tuple es k0 p0 :: fs) kk xp] py pos ∧ mTgs N sc fT is es = true ∧ mTgs N sc fT js fs = true ∧ mE N ren e sc py = true ∧ notTup py = true := by
  simp only [mS] at hm
  split at hm
  · simp only [Bool.and_eq_true] at hm
    exact ⟨_, _, _, _, _, _, _, _, rfl, hm.1.1.1, hm.1.1.2, hm.1.2, hm.2⟩
  · cases hm
theorem sw2B_eq {N : List Str} {ren : String → String} {xs : List String} {xf : String → List String} {i : Nat} {a b v u : E} {sc : Scope} {st : Stmt} (hm : mS N ren xs xf (.sw2 i a b v u) sc st = true) :
    ∃ x xp py1 p1 x2 xp2 py2 p2 k2 p3 py3 py4 k4 p4 pos, st = .Assign [.Tuple [.Subscript (.Name x xp) py1 p1, .Subscript (.Name x2 xp2) py2 p2] k2 p3] (.Tuple [py3, py4] k4 p4) pos ∧ rdSlot N sc i x = true ∧ rdSlot N sc i x2 = true ∧ mE N ren a sc py1 = true ∧ mE N ren b sc py2 = true ∧ mE N ren (.tup (.cons v (.cons u .nil))) sc (.Tuple [py3, py4] k4 p4) = true := by
  simp only [mS] at hm
  split at hm
  · simp only [Bool.and_eq_true] at hm
    exact ⟨_, _, _, _, _, _, _, _, _, _, _, _, _, _, _, rfl, hm.1.1.1.1, hm.1.1.1.2, hm.1.1.2, hm.1.2, hm.2⟩
  · cases hm
theorem unn_ok {w : Wd} {k : Nat} {N : List Str} {xs : List String} {X : Cx} {is js : List Nat} {e : E} {es fs : List Expr} {k0 kk : Nat} {p0 xp pos : Pos} {py : Expr} (hS : XSt w k N xs X) (tk : Takes X w.W) (h1 : mTgs N X.env.scope fT is es = true) (h2 : mTgs N X.env.scope fT js fs = true) (h3 : mE N w.ren e X.env.scope py = true) (h4 : notTup py = true) :
    PS X (.Assign [.Tuple (.Tuple es k0 p0 :: fs) kk xp] py pos) (semS w (.unn is js e)) := by
  have g1 : PG X (.Tuple es k0 p0) (gTg X.K true is) := sndTg (fb := fT) (N := N) hS.x.N hS.x.nd hS.x.calm hS.hf (by simpa [mTg] using h1)
  obtain ⟨q1, q2, q3⟩ := sndTgs hS.x.N hS.x.nd hS.hf h2
  have g : PG X (.Tuple (.Tuple es k0 p0 :: fs) kk xp) (gTup X.K (js.length + 1) (gCons (gTg X.K true is) (gNames js))) :=
    pg_tup hS.x.calm (pgs_cons g1 q1 rfl) (by simp [assignEach,q2]) (by simp [assignEach,List.findIdx?_cons,q3])
  refine ⟨fun pins s σ H De I h => (ps_asg (sndE e hS.x tk h3) g sole_tup (stores_tup h4) rfl).run pins s σ H De I ?_⟩
  obtain ⟨ev, Z, A, R, h⟩ := h
  simp only [evS] at h
  refine semE_mono (stm1 R h) fun v H1 ⟨r, e1, Z1, A1, s1, R1, q1, h1⟩ => ?_
  split at h1
  · rename_i xs0 ds e2 hd
    obtain ⟨Z2, A2, s2, R2, rp⟩ := R1.esc q1 hd
    split at h1
    · rename_i e3 he
      split at h1
      · rename_i e4 he4
        rw [hS.x.K]
        cases rp with
        | tup w1 w2 w3 =>
          cases w3 with
          | cons r0 rr =>
            refine ⟨_, _, rfl, .inl (.inl (R2.sub _ _ w1)), ?_, _, _, rfl, ?_⟩
            · obtain ⟨_, _, l⟩ := (show ∃ (e : Ev) (A' : Nat → List Addr), js.length = _ from by
                have key : ∀ {is : List Nat} {ds : List D} {ev ev' : Ev}, Bide.setVs ev is ds = some ev' → is.length = ds.length := by
                  intro is
                  induction is with
                  | nil => intro ds ev ev' h; cases ds <;> simp [Bide.setVs] at h ⊢
                  | cons i is ih =>
                    intro ds ev ev' h
                    cases ds with
                    | nil => simp [Bide.setVs] at h
                    | cons d ds =>
                      simp only [Bide.setVs] at h
                      split at h
                      · simp [ih h]
                      · cases h
                exact ⟨[], A2, (key he4).trans rr.length.symm⟩)
              simp [l]
            · refine RS.bindTg (tup := true) (d := .tuple xs0) R2 r0 (by simpa [bindTg] using he) fun vs A3 R3 => ?_
              obtain ⟨A4, R4, l⟩ := R3.setVs rr he4
              exact gNames_ok l (h1 _ H1 Z2 A4 s2 R4)
      · exact h1.elim
    · exact h1.elim
  · exact h1.elim
theorem stores_sub2 {o i o2 i2 a b : Expr} {p p2 p3 p4 : Pos} {k k4 : Nat} {env : Env} : swappedStores [.Tuple [.Subscript o i p, .Subscript o2 i2 p2] k p3] (.Tuple [a, b] k4 p4) env = pure none := by
  unfold swappedStores
  simp only []
  split
  · rfl
  split
  · rfl
  refine (if_pos ?_).trans rfl
  simp
theorem sw2_ok {w : Wd} {k : Nat} {N : List Str} {xs : List String} {X : Cx} {i : Nat} {a b v u : E} {x x2 : Str} {py1 py2 py3 py4 : Expr} {xp xp2 p1 p2 p3 p4 pos : Pos} {k2 k4 : Nat} (hS : XSt w k N xs X) (tk : Takes X w.W) (h1 : rdSlot N X.env.scope i x = true) (h1' : rdSlot N X.env.scope i x2 = true) (h2 : mE N w.ren a X.env.scope py1 = true) (h2' : mE N w.ren b X.env.scope py2 = true) (h3 : mE N w.ren (.tup (.cons v (.cons u .nil))) X.env.scope (.Tuple [py3, py4] k4 p4) = true) :
    PS X (.Assign [.Tuple [.Subscript (.Name x xp) py1 p1, .Subscript (.Name x2 xp2) py2 p2] k2 p3] (.Tuple [py3, py4] k4 p4) pos) (semS w (.sw2 i a b v u)) := by
  have g := pg_tup (pos := p3) (k := k2) (n := 2) hS.x.calm (pgs_cons (pg_sub (pos := p1) (rd_slot (pos := xp) hS.x.N h1) (sndE a hS.x tk h2) set_list (assign_sub (mE_noStar h2))) (pgs_cons (pg_sub (pos := p2) (rd_slot (pos := xp2) hS.x.N h1') (sndE b hS.x tk h2') set_list (assign_sub (mE_noStar h2'))) pgs_nil rfl) rfl) rfl rfl
  refine ⟨fun pins s σ H De I h => (ps_asg (sndE (.tup (.cons v (.cons u .nil))) hS.x tk h3) g sole_tup stores_sub2 rfl).run pins s σ H De I ?_⟩
  obtain ⟨ev, Z, A, R, h⟩ := h
  simp only [evS] at h
  refine semE_mono (stm1 R h) fun y H1 ⟨r, e1, Z1, A1, s1, R1, q1, h1⟩ => ?_
  split at h1
  · rename_i d1 d2 e2 hd
    obtain ⟨Z2, A2, s2, R2, rp⟩ := R1.esc q1 hd
    have h1 := h1.same s2
    cases rp with
    | tup w1 w2 w3 =>
      cases w3 with
      | cons ra rr =>
        cases rr with
        | cons rb rn =>
          cases rn with
          | nil =>
            rename_i v1 v2
            split at h1
            · rename_i xs0 h0
              obtain ⟨a0, _, ea, _⟩ := spot R2 h0
              rw [hS.x.K]
              refine ⟨_, _, rfl, .inl (.inl (R2.sub _ _ w1)), rfl, _, _, rfl, ?_⟩
              refine ⟨.ref a0, ea, semE_mono (stm1 R2 h1) fun z H2 ⟨q, e3, Z3, A3, s3, R3, q3, h3⟩ => ?_⟩
              split at h3
              · rename_i j xs hj hx
                obtain ⟨a1, ys, ea', e2', g1, g2, g3, g4⟩ := spot R3 hx
                rw [ea] at ea'
                cases ea'
                cases (R3.rdv q3 hj).int
                split at h3
                · rename_i zs hz
                  obtain ⟨n, hn, hlt, rfl⟩ := setAt_ix hz
                  rw [← g3.length] at hn
                  refine ⟨a0, ys, j, n, rfl, rfl, g1, hn, ?_⟩
                  have R4 := g4 (upd H2 a0 (.lst (ys.set n v1))) _ (xs.set n d1) (fun b hb => upd_ne hb) upd_same (by rw [List.length_set]; exact g2) (g3.set n (ra.mono s3))
                  refine ⟨v2, [], rfl, .ref a0, ea, semE_mono (stm1 R4 h3) fun z' H5 ⟨q', e5, Z5, A5, s5, R5, q5, h5⟩ => ?_⟩
                  split at h5
                  · rename_i j5 xs5 hj5 hx5
                    obtain ⟨a5, ys5, ea5, e25, g15, g25, g35, g45⟩ := spot R5 hx5
                    rw [ea] at ea5
                    cases ea5
                    cases (R5.rdv q5 hj5).int
                    split at h5
                    · rename_i zs5 hz5
                      obtain ⟨n5, hn5, hlt5, rfl⟩ := setAt_ix hz5
                      rw [← g35.length] at hn5
                      refine ⟨a0, ys5, j5, n5, rfl, rfl, g15, hn5, rfl, ?_⟩
                      have R6 := g45 (upd H5 a0 (.lst (ys5.set n5 v2))) _ (xs5.set n5 d2) (fun b hb => upd_ne hb) upd_same (by rw [List.length_set]; exact g25) (g35.set n5 ((rb.mono s3).mono s5))
                      exact h5 σ _ Z5 A5 (Same.refl _) R6
                    · exact h5.elim
                  · exact h5.elim
                · exact h3.elim
              · exact h3.elim
            · exact h1.elim
  · exact h1.elim
mutual
theorem sndS : ∀ (s : S) {w : Wd} {k : Nat} {N : List Str} {xs : List String} {X : Cx} {py : Stmt}, XSt w k N xs X → Takes X w.W → mS N w.ren xs w.xf s X.env.scope py = true → PS X py (semS w s)
  | .asg i e, w, k, N, xs, X, py, hS, tk, hm => by
    cases py <;> first | (exfalso; revert hm; simp [mS]; done) | skip
    rename_i ts py pos
    match ts, hm with
    | [], hm => exact absurd hm (by simp [mS])
    | _ :: _ :: _, hm => exact absurd hm (by simp [mS])
    | [t], hm =>
      cases t <;> first | (exfalso; revert hm; simp [mS]; done) | skip
      rename_i x xp
      simp only [mS, Bool.and_eq_true] at hm
      obtain ⟨h1, h2, h3⟩ := wr_loc hm.1 hS.hf
      have hsw := swap_eq (x := x) (p := xp) (l := pos.line) hS.kind (mE_lcOnly hm.2)
      have body : PS X (.Assign [.Name x xp] py pos) (tAsg (semE w e) (gName i)) := by
        cases hb : swapB py x xp X.env.scope with
        | false =>
          rw [hb] at hsw
          exact ps_set hS.x.nd (by rw [hS.x.N]; exact h1) h2 (sndE e hS.x tk hm.2) hsw h3
        | true =>
          rw [hb] at hsw
          have hc : notLc py = false := by cases py <;> first | rfl | (simp [swapB] at hb)
          have hl : X.env.scope.names.lookup x = some .local := by
            cases py <;> first | (simp [swapB] at hb; done) | skip
            all_goals (simp only [swapB, Bool.and_eq_true, beq_iff_eq] at hb; exact hb.1.1)
          exact setLc_ok hS tk hm.2 h1 hl hsw hc
      refine ⟨fun pins s σ H De I h => body.run pins s σ H De I ?_⟩
      obtain ⟨ev, Z, A, R, h⟩ := h
      simp only [evS] at h
      exact semE_mono (stm0 R h) fun v H1 ⟨r, e1, Z1, A1, s1, R1, q1, h1⟩ => asg_fin R1 q1 h1
  | .unp is e, w, k, N, xs, X, py, hS, tk, hm => by
    simp only [mS] at hm
    have hm2 := Bool.or_eq_true_iff.mp hm
    clear hm
    rcases hm2 with hm | hm
    · exact par_ok hS tk hm
    cases py <;> first | (exfalso; revert hm; simp [mS]; done) | skip
    rename_i ts py pos
    match ts, hm with
    | [], hm => exact absurd hm (by simp [mS])
    | _ :: _ :: _, hm => exact absurd hm (by simp [mS])
    | [t], hm =>
      cases t <;> first | (exfalso; revert hm; simp [mS]; done) | skip
      rename_i es kk xp
      simp only [mS, Bool.and_eq_true] at hm
      obtain ⟨⟨h1, h2⟩, h3⟩ := hm
      have g : PG X (.Tuple es kk xp) (gTg X.K true is) := sndTg (fb := fT) (N := N) hS.x.N hS.x.nd hS.x.calm hS.hf (by simpa [mTg] using h1)
      refine ⟨fun pins s σ H De I h => (ps_asg (sndE e hS.x tk h2) g sole_tup ((Bool.or_eq_true_iff.mp h3).elim stores_tup stores_cell) rfl).run pins s σ H De I ?_⟩
      obtain ⟨ev, Z, A, R, h⟩ := h
      simp only [evS] at h
      refine semE_mono (stm1 R h) fun v H1 ⟨r, e1, Z1, A1, s1, R1, q1, h1⟩ => ?_
      split at h1
      · rename_i ds e2 hd
        obtain ⟨Z2, A2, s2, R2, rp⟩ := R1.esc q1 hd
        split at h1
        · rename_i e3 he
          rw [hS.x.K]
          refine RS.bindTg (tup := true) (d := .tuple ds) R2 rp (by simpa [bindTg] using he) fun vs A3 R3 => ?_
          exact h1 _ H1 Z2 A3 s2 R3
        · exact h1.elim
      · exact h1.elim
  | .unl is e, w, k, N, xs, X, py, hS, tk, hm => by
    cases py <;> first | (exfalso; revert hm; simp [mS]; done) | skip
    rename_i ts py pos
    match ts, hm with
    | [], hm => exact absurd hm (by simp [mS])
    | _ :: _ :: _, hm => exact absurd hm (by simp [mS])
    | [t], hm =>
      cases t <;> first | (exfalso; revert hm; simp [mS]; done) | skip
      rename_i es kk xp
      simp only [mS, Bool.and_eq_true] at hm
      obtain ⟨⟨h1, h2⟩, h3⟩ := hm
      have g : PG X (.Tuple es kk xp) (gUnl X.K is.length (gNames is)) := by
        obtain ⟨q1, q2, q3⟩ := sndTgs hS.x.N hS.x.nd hS.hf h1
        exact pg_unl hS.x.calm q1 q2 q3
      refine ⟨fun pins s σ H De I h => (ps_asg (sndE e hS.x tk h2) g sole_tup (stores_tup h3) rfl).run pins s σ H De I ?_⟩
      obtain ⟨ev, Z, A, R, h⟩ := h
      simp only [evS] at h
      refine semE_mono (stm1 R h) fun v H1 ⟨r, e1, Z1, A1, s1, R1, q1, h1⟩ => ?_
      split at h1
      · rename_i ds e2 hd
        obtain ⟨Z2, A2, s2, R2, rp⟩ := R1.esc q1 hd
        split at h1
        · rename_i e3 he
          rw [hS.x.K]
          refine RS.unl R2 rp he fun vs A3 R3 => ?_
          exact h1 _ H1 Z2 A3 s2 R3
        · exact h1.elim
      · exact h1.elim
  | .sti i a v, w, k, N, xs, X, py, hS, tk, hm => by
    cases py <;> first | (exfalso; revert hm; simp [mS]; done) | skip
    rename_i ts py pos
    match ts, hm with
    | [], hm => exact absurd hm (by simp [mS])
    | _ :: _ :: _, hm => exact absurd hm (by simp [mS])
    | [t], hm =>
      cases t <;> first | (exfalso; revert hm; simp [mS]; done) | skip
      rename_i o ix xp
      cases o <;> first | (exfalso; revert hm; simp [mS]; done) | skip
      simp only [mS, Bool.and_eq_true] at hm
      exact sti_ok hS tk hm.1.1 hm.1.2 hm.2
  | .st2 i a j v, w, k, N, xs, X, py, hS, tk, hm => by
    cases py <;> first | (exfalso; revert hm; simp [mS]; done) | skip
    rename_i ts py pos
    match ts, hm with
    | [], hm => exact absurd hm (by simp [mS])
    | _ :: _ :: _, hm => exact absurd hm (by simp [mS])
    | [t], hm =>
      cases t <;> first | (exfalso; revert hm; simp [mS]; done) | skip
      rename_i o ix xp
      cases o <;> first | (exfalso; revert hm; simp [mS]; done) | skip
      rename_i o1 ix1 xp1
      cases o1 <;> first | (exfalso; revert hm; simp [mS]; done) | skip
      cases ix <;> first | (exfalso; revert hm; simp [mS]; done) | skip
      simp only [mS, Bool.and_eq_true] at hm
      exact st2_ok hS tk hm.1.1.1 hm.1.1.2 hm.1.2 hm.2
  | .std i a v, w, k, N, xs, X, py, hS, tk, hm => by
    cases py <;> first | (exfalso; revert hm; simp [mS]; done) | skip
    rename_i ts py pos
    match ts, hm with
    | [], hm => exact absurd hm (by simp [mS])
    | _ :: _ :: _, hm => exact absurd hm (by simp [mS])
    | [t], hm =>
      cases t <;> first | (exfalso; revert hm; simp [mS]; done) | skip
      rename_i o ix xp
      cases o <;> first | (exfalso; revert hm; simp [mS]; done) | skip
      simp only [mS, Bool.and_eq_true] at hm
      exact std_ok hS tk hm.1.1 hm.1.2 hm.2
  | .xpr e, w, k, N, xs, X, py, hS, tk, hm => by
    cases py <;> first | (exfalso; revert hm; simp [mS]; done) | skip
    rename_i py pos
    simp only [mS, Bool.and_eq_true] at hm
    refine ⟨fun pins s σ H De I h => (ps_expr (sndE e hS.x tk hm.1) (swap_none (mE_lcOnly hm.1) hm.2)).run pins s σ H De I ?_⟩
    obtain ⟨ev, Z, A, R, h⟩ := h
    simp only [evS] at h
    exact semE_mono (stm0 R h) fun v H1 ⟨r, e1, Z1, A1, s1, R1, q1, h1⟩ => h1 σ H1 Z1 A1 (Same.refl _) R1
  | .ife t a b, w, k, N, xs, X, py, hS, tk, hm => by
    cases py <;> first | (exfalso; revert hm; simp [mS]; done) | skip
    rename_i c p q pos
    simp only [mS, Bool.and_eq_true] at hm
    refine ⟨fun pins s σ H De I h => (ps_if (sndT t hS.x tk hm.1.1) (sndSs a hS tk hm.1.2) (sndSs b hS tk hm.2)).run pins s σ H De I ?_⟩
    obtain ⟨ev, Z, A, R, h⟩ := h
    simp only [evS] at h
    refine semT_mono (stmT R h) fun v H1 ⟨e1, Z1, A1, s1, R1, h1⟩ => ?_
    cases v with
    | true => rw [if_pos rfl]; exact ⟨e1, Z1, A1, R1, h1⟩
    | false => rw [if_neg (by simp)]; exact ⟨e1, Z1, A1, R1, h1⟩
  | .forr tg tup it b, w, k, N, xs, X, py, hS, tk, hm => by
    cases py <;> first | (exfalso; revert hm; simp [mS]; done) | skip
    rename_i t iter body orelse pos
    cases orelse <;> first | (exfalso; revert hm; simp [mS]; done) | skip
    simp only [mS, Bool.and_eq_true] at hm
    have g : PG X t (gTg X.K tup tg) := sndTg (fb := fT) (N := N) hS.x.N hS.x.nd hS.x.calm hS.hf hm.1.1
    refine ⟨fun pins s σ H De I h => (ps_for hS.pass hS.x.calm (sndIt it hS.x tk hm.1.2) g (sndSs b hS tk hm.2) (fold_of (mIt_noStar hm.1.2))).run pins s σ H De I ?_⟩
    obtain ⟨ev, Z, A, R, h⟩ := h
    simp only [evS] at h
    rw [hS.x.K]
    exact ⟨ev, Z, A, R, h.bnd.imp fun ds e1 H1 Z1 A1 s1 R1 q J wk => for_turns wk R1 q⟩
  | .fork tg tup i b, w, k, N, xs, X, py, hS, tk, hm => by
    cases py <;> first | (exfalso; revert hm; simp [mS]; done) | skip
    rename_i t iter body orelse pos
    cases orelse <;> first | (exfalso; revert hm; simp [mS]; done) | skip
    cases iter <;> first | (exfalso; revert hm; simp [mS]; done) | skip
    rename_i x xp
    simp only [mS, Bool.and_eq_true] at hm
    have g : PG X t (gTg X.K tup tg) := sndTg (fb := fT) (N := N) hS.x.N hS.x.nd hS.x.calm hS.hf hm.1.1
    have bd : PSs X body (anySs w b) := ⟨fun pins s σ H De I ⟨c', hc', q⟩ => (sndSs b (hS.blk c' hc') takesF hm.2).run pins s σ H De I q⟩
    have main := ps_for (iter := .Name x xp) (pos := pos) hS.pass hS.x.calm (pi_keys (rd_slot hS.x.N hm.1.2)) g bd (fold_of rfl)
    refine ⟨fun pins s σ H De I h => ?_⟩
    obtain ⟨ev, Z, A, R, h⟩ := h
    simp only [evS] at h
    rw [hS.x.K] at main
    cases hk : keysE ev i with
    | none => rw [hk] at h; exact h.elim
    | some p =>
      obtain ⟨ds, e1⟩ := p
      rw [hk] at h
      simp only at h
      obtain ⟨Z1, A1, d, s1, R1, hx, wk⟩ := keysE_ok R hk
      have h1 := h.same s1
      rcases wk with ⟨q, ks, gz, wk⟩ | ⟨q, ks, gz, wk⟩ | ⟨ks, gz, wk⟩ | ⟨ks, gz, wk⟩
      · exact main.run pins s σ H De I ⟨.ref d, hx, d, q, rfl, .inl ⟨ks, R1.sub _ _ gz, for_turnsA rfl wk R1 h1.noX⟩⟩
      · exact main.run pins s σ H De I ⟨.ref d, hx, d, q, rfl, .inr ⟨ks, R1.sub _ _ gz, for_turnsA rfl wk R1 h1.noX⟩⟩
      · refine (ps_lock main).run pins s σ H De I ⟨d, .dK ks, R1.sub _ _ gz, trivial, fun q => ⟨.ref d, hx, d, q, rfl, .inl ⟨ks, upd_same, ?_⟩⟩⟩
        have l : Lk (.dK ks) (.frz q (.dK ks)) := .inl ⟨_, .inl rfl, .inr ⟨q, rfl⟩⟩
        exact for_turnsA (w := w.blk (w.c.lk d (.frz q (.dK ks)))) rfl (wk q) (R1.swap l gz) (OutS.lock R1 gz l h1)
      · refine (ps_lock main).run pins s σ H De I ⟨d, .dT ks, R1.sub _ _ gz, trivial, fun q => ⟨.ref d, hx, d, q, rfl, .inr ⟨ks, upd_same, ?_⟩⟩⟩
        have l : Lk (.dT ks) (.frz q (.dT ks)) := .inr ⟨_, .inl rfl, .inr ⟨q, rfl⟩⟩
        exact for_turnsA (w := w.blk (w.c.lk d (.frz q (.dT ks)))) rfl (wk q) (R1.swap l gz) (OutS.lock R1 gz l h1)
  | .whl n t b, w, k, N, xs, X, py, hS, tk, hm => by
    cases py <;> first | (exfalso; revert hm; simp [mS]; done) | skip
    rename_i c body orelse pos
    cases orelse <;> first | (exfalso; revert hm; simp [mS]; done) | skip
    simp only [mS, Bool.and_eq_true] at hm
    refine ⟨fun pins s σ H De I h => (ps_while hS.pass (sndT t hS.x tk hm.1) (sndSs b hS tk hm.2)).run pins s σ H De I ?_⟩
    obtain ⟨ev, Z, A, R, h⟩ := h
    simp only [evS] at h
    refine ⟨fun m σ H => ∃ ev Z A, RS w.K w.c σ H Z ev A ∧ OutS w Z (whlL (evT w.cf t) (evSs w.cf b) m ev) De, ⟨n, ev, Z, A, R, h⟩, fun m σ' H' hw => ?_⟩
    obtain ⟨ev', Z', A', R', h'⟩ := hw
    cases m with
    | zero => exact h'.elim
    | succ m =>
      have h'' : OutS w Z' ((evT w.cf t ev').bind fun kk ev1 => match kk with
        | true => match evSs w.cf b ev1 with
          | .ok .nx ev2 => whlL (evT w.cf t) (evSs w.cf b) m ev2
          | .ok .ct ev2 => whlL (evT w.cf t) (evSs w.cf b) m ev2
          | .ok .br ev2 => .ok .nx ev2
          | .ok (.rt r) ev2 => .ok (.rt r) ev2
          | .ex x ev2 => .ex x ev2
          | .bad => .bad
        | false => .ok .nx ev1) De := by
        simp only [whlL] at h'
        cases ht : evT w.cf t ev' with
        | ok kk e => rw [ht] at h'; cases kk <;> exact h'
        | ex x e => rw [ht] at h'; exact h'
        | bad => rw [ht] at h'; exact h'
      refine semT_mono (stmT R' h'') fun v H1 ⟨e1, Z1, A1, s1, R1, h1⟩ => ?_
      cases v with
      | false => rw [if_neg (by simp)]; exact h1 σ' H1 Z1 A1 (Same.refl _) R1
      | true =>
        rw [if_pos rfl]
        refine ⟨fun σ2 H2 => ∃ ev Z A, RS w.K w.c σ2 H2 Z ev A ∧ OutS w Z (whlL (evT w.cf t) (evSs w.cf b) m ev) De, fun σ2 H2 q => ⟨m, Nat.lt_succ_self m, q⟩, e1, Z1, A1, R1, ?_⟩
        simp only at h1
        cases hf : evSs w.cf b e1 with
        | bad => rw [hf] at h1; exact h1.elim
        | ex x e => rw [hf] at h1; exact h1
        | ok a e =>
          rw [hf] at h1
          cases a with
          | nx => exact fun σ3 H3 Z3 A3 s3 R4 => ⟨e, Z3, A3, R4, OutS.same h1 s3⟩
          | ct => exact fun σ3 H3 Z3 A3 s3 R4 => ⟨e, Z3, A3, R4, OutS.same h1 s3⟩
          | br => exact h1
          | rt q => exact h1
  | .ret e, w, k, N, xs, X, py, hS, tk, hm => by
    cases py <;> first | (exfalso; revert hm; simp [mS]; done) | skip
    rename_i v pos
    cases v <;> first | (exfalso; revert hm; simp [mS]; done) | skip
    simp only [mS] at hm
    refine ⟨fun pins s σ H De I h => (ps_ret (sndE e hS.x tk hm)).run pins s σ H De I ?_⟩
    obtain ⟨ev, Z, A, R, h⟩ := h
    simp only [evS] at h
    exact semE_mono (stm0 R h) fun v H1 ⟨r, e1, Z1, A1, s1, R1, q1, h1⟩ => ret_fin R1 q1 h1
  | .retN, w, k, N, xs, X, py, hS, tk, hm => by
    cases py <;> first | (exfalso; revert hm; simp [mS]; done) | skip
    rename_i v pos
    cases v <;> first | (exfalso; revert hm; simp [mS]; done) | skip
    refine ⟨fun pins s σ H De I h => ps_retN.run pins s σ H De I ?_⟩
    obtain ⟨ev, Z, A, R, h⟩ := h
    exact h σ H Z A .non (Same.refl _) R .non
  | .rse n es, w, k, N, xs, X, py, hS, tk, hm => by
    cases py <;> first | (exfalso; revert hm; simp [mS]; done) | skip
    rename_i ex cause pos
    cases cause <;> first | (exfalso; revert hm; cases ex <;> simp [mS]; done) | skip
    cases ex <;> first | (exfalso; revert hm; simp [mS]; done) | skip
    rename_i ex
    cases ex <;> first | (exfalso; revert hm; simp [mS]; done) | skip
    rename_i fn as kws cpos
    cases fn <;> first | (exfalso; revert hm; simp [mS]; done) | skip
    match as, kws, hm with
    | [], _, hm => exact absurd hm (by simp [mS])
    | _ :: _, _ :: _, hm => exact absurd hm (by simp [mS])
    | y :: ys, [], hm =>
      simp only [mS, Bool.and_eq_true, decide_eq_true_eq] at hm
      obtain ⟨⟨⟨⟨h1, h2⟩, h3⟩, h4⟩, h5⟩ := hm
      cases isN_eq h1
      have hst : starEach (y :: ys) X.env = (false, eval y X.env) :: starEach ys X.env := by
        cases es with
        | nil => simp [mEs] at h5
        | cons e es =>
          simp only [mEs, Bool.and_eq_true] at h5
          exact star_of (mE_noStar h5.1)
      have hany : (backTo cpos (starEach ys X.env)).any (·.1) = false := by
        cases es with
        | nil => simp [mEs] at h5
        | cons e es =>
          simp only [mEs, Bool.and_eq_true] at h5
          exact mEs_star h5.2
      refine ⟨fun pins s σ H De I h => (ps_raise hS.x.calm tk (hS.exs n h2 y ys _ _ _ (glb_gl h3) (sndEs es hS.x tk h5) hst hany h4)).run pins s σ H De I ?_⟩
      obtain ⟨ev, Z, A, R, h⟩ := h
      simp only [evS] at h
      refine semEs_mono (stmEsN R h) fun vs H1 ⟨rs, e1, Z1, A1, s1, R1, q1, hn1, h1⟩ => ?_
      split at h1
      · rename_i ds e2 hd
        obtain ⟨Z2, A2, s2, R2, rp⟩ := R1.escs q1 hd
        rw [hS.x.K]
        refine ⟨Z2, ds, R2.sub, rp, by rw [escs_n hd, hn1, mEs_n h5, List.length_cons]; exact h4, fun cls dd H' sH xo => h1 σ H' Z2 A2 cls dd s2 (R2.ext (Same.refl _) (fun p o e => sH p o (R2.sub p o e)) (fun _ _ e => .inl e) (fun _ _ e => e) sH) xo⟩
      · exact h1.elim
  | .trx b x i h, w, k, N, xs, X, st, hS, tk, hm => by
    simp only [mS] at hm
    cases ht : trParts st with
    | none => rw [ht] at hm; cases hm
    | some q =>
      obtain ⟨y, n, py, body⟩ := q
      rw [ht] at hm
      obtain ⟨np, rp, pos', pos, rfl⟩ := trParts_eq ht
      simp only [Bool.and_eq_true, decide_eq_true_eq] at hm
      obtain ⟨⟨⟨⟨⟨⟨⟨⟨h1, h2⟩, h3⟩, h4⟩, h5⟩, h6⟩, h7⟩, h8⟩, h9⟩ := hm
      cases isN_eq h1
      obtain ⟨C, hC, hj⟩ := mHx_has hS.xc h8
      have hx : Names X (sN x) (.ref C) := ⟨glb_gl h2, okN1 h3, .inl (hS.xc.mgx x C hC)⟩
      have hsu : ∀ (a : Addr) (oe : Obj) (cls : Value) (d : Option Addr) (pn : List (Addr × Obj)), Zc cls d oe → (∃ vs, oe.data = .fields vs) → PSs (X.suite a ((a, oe) :: pn)) [.Return (some py) rp] (trTs h i C a cls d) := fun a oe cls d pn hz hf =>
        trSuite hS.x.N h4 h5 h6 (hS.xc.xfc x C hC) (fun f hm => hS.xc.nof x C hC f hm) hz hf h8
      refine ⟨fun pins s σ H De I hh => (ps_try_as (tb := fun W => semSs { w with W := W } b) (ts := trTs h i C) (Wout := w.W) hS.stk hS.frm hS.x.nd (by rw [hS.x.N]; exact h4) (kindOf_loc hS.kind h7) hx tk (fun W pn xe tk2 hp => ?_) hsu).run pins s σ H De I ?_⟩
      · exact sndSs b (w := { w with W := W }) (k := k) (N := N) (xs := []) (X := X.tr pn xe) ⟨⟨hS.x.K, hS.x.N, hS.x.calm, hS.x.nd, hS.x.room, hS.x.fns, hS.x.gls, hS.x.blt, hS.x.fn, hS.x.lam⟩, hS.kind, hp, (fun n hn => by cases hn), hS.stk, hS.frm, hS.xc⟩ tk2 h9
      · obtain ⟨ev, Z, A, R, hh⟩ := hh
        simp only [evS] at hh
        refine ⟨ev, Z, A, R, ?_⟩
        rw [hS.x.K]
        cases hb : evSs w.cf b ev with
        | bad => rw [hb] at hh; exact hh.elim
        | ok f e1 =>
          rw [hb] at hh
          cases f <;> exact hh
        | ex e e1 =>
          rw [hb] at hh
          dsimp only at hh
          intro σ1 H1 Z1 A1 cls dd s1 R1 hex
          obtain ⟨Cx, d, fs, q1, q2, q3, q4, q5⟩ := id hex
          have hexm := hS.xc.exmL (fun q => by rw [q] at hj; exact absurd hj.1 (by simp)) q1 hC
          rw [hS.x.K] at hexm
          refine ⟨decide (e.c = x), by rw [q2]; exact hexm, fun hd a ha => ?_, fun hd => ?_⟩
          · have hcx : e.c = x := of_decide_eq_true hd
            rw [if_pos hcx] at hh
            split at hh
            · rename_i sv r hsv hr
              have hil : i < σ1.length := by rw [R1.len]; exact (List.getElem?_eq_some_iff.mp hsv).1
              exact trTs_ok (De := De) R1 hil hcx hC hj.1 hex hr (RS.giveS R1 rfl rfl (OutS.same hh s1)) rfl
            · exact hh.elim
          · have hcx : ¬ e.c = x := of_decide_eq_false hd
            rw [if_neg hcx] at hh
            exact hh σ1 H1 Z1 A1 cls dd s1 R1 hex
  | .trm b hs, w, k, N, xs, X, st, hS, tk, hm => by
    cases st <;> first | (exfalso; revert hm; simp [mS]; done) | skip
    rename_i body hds orelse fin pos
    match hds, orelse, fin, hm with
    | [], _, _, hm => simp [mS] at hm
    | _ :: _, _ :: _, _, hm => simp [mS] at hm
    | _ :: _, [], _ :: _, hm => simp [mS] at hm
    | h0 :: hds, [], [], hm =>
      simp only [mS, Bool.and_eq_true] at hm
      obtain ⟨qs, lk, cl⟩ := mHds_lk hS hm.1
      refine ⟨fun pins s σ H De I hh => (ps_tries (tb := fun W => semSs { w with W := W } b) (out := w.W) hS.stk hS.frm hS.x.nd tk (fun W pn xe tk2 hp => ?_) cl).run pins s σ H De I ?_⟩
      · exact sndSs b (w := { w with W := W }) (k := k) (N := N) (xs := []) (X := X.tr pn xe) ⟨⟨hS.x.K, hS.x.N, hS.x.calm, hS.x.nd, hS.x.room, hS.x.fns, hS.x.gls, hS.x.blt, hS.x.fn, hS.x.lam⟩, hS.kind, hp, (fun n hn => by cases hn), hS.stk, hS.frm, hS.xc⟩ tk2 hm.2
      · obtain ⟨ev, Z, A, R, hh⟩ := hh
        simp only [evS] at hh
        refine ⟨ev, Z, A, R, ?_⟩
        rw [hS.x.K]
        cases hb : evSs w.cf b ev with
        | bad => rw [hb] at hh; exact hh.elim
        | ok f e1 =>
          rw [hb] at hh
          cases f <;> exact hh
        | ex e e1 =>
          rw [hb] at hh
          dsimp only at hh
          intro σ1 H1 Z1 A1 cls dd s1 R1 hex
          cases hsl : slotsB e1 hs with
          | false => rw [hsl] at hh; exact hh.elim
          | true =>
            rw [hsl] at hh
            refine lk_takes hS R1 hex lk hsl ?_
            cases he : evHds e hs with
            | none => rw [he] at hh; exact hh.elim
            | some o =>
              rw [he] at hh
              cases o with
              | none => exact hh σ1 H1 Z1 A1 cls dd s1 R1 hex
              | some r => exact RS.giveS R1 rfl rfl (OutS.same hh s1)
  | .unn is js e, w, k, N, xs, X, st, hS, tk, hm => by
    obtain ⟨es, k0, p0, fs, kk, xp, py, pos, rfl, h⟩ := unnB_eq hm
    exact unn_ok hS tk h.1 h.2.1 h.2.2.1 h.2.2.2
  | .sw2 i a b v u, w, k, N, xs, X, st, hS, tk, hm => by
    obtain ⟨x, xp, py1, p1, x2, xp2, py2, p2, k2, p3, py3, py4, k4, p4, pos, rfl, h⟩ := sw2B_eq hm
    exact sw2_ok hS tk h.1 h.2.1 h.2.2.1 h.2.2.2.1 h.2.2.2.2
  | .pass, w, k, N, xs, X, py, hS, tk, hm => by
    have fin : ∀ {De : Ends} {σ : L2.St} {H : Hp}, semS w .pass De σ H → De.nx σ H := fun ⟨ev, Z, A, R, h⟩ => h _ _ Z A (Same.refl _) R
    cases py <;> first | (exfalso; revert hm; simp [mS]; done) | skip
    · rename_i v pos
      cases v <;> first | (exfalso; revert hm; simp [mS]; done) | skip
      rename_i c _ _
      cases c <;> first | (exfalso; revert hm; simp [mS]; done) | skip
      exact ⟨fun pins s σ H De I h => ps_doc.run pins s σ H De I (fin h)⟩
    · exact ⟨fun pins s σ H De I h => ps_pass.run pins s σ H De I (fin h)⟩
  | .brk, w, k, N, xs, X, py, hS, tk, hm => by
    cases py <;> first | (exfalso; revert hm; simp [mS]; done) | skip
    refine ⟨fun pins s σ H De I h => ps_break.run pins s σ H De I ?_⟩
    obtain ⟨ev, Z, A, R, h⟩ := h
    exact h _ _ Z A (Same.refl _) R
  | .cont, w, k, N, xs, X, py, hS, tk, hm => by
    cases py <;> first | (exfalso; revert hm; simp [mS]; done) | skip
    refine ⟨fun pins s σ H De I h => ps_continue.run pins s σ H De I ?_⟩
    obtain ⟨ev, Z, A, R, h⟩ := h
    exact h _ _ Z A (Same.refl _) R
  | .nev, w, k, N, xs, X, py, hS, tk, hm => ⟨fun pins s σ H De I h => by
    obtain ⟨ev, Z, A, R, h⟩ := h
    exact h.elim⟩
termination_by s => sizeOf s
decreasing_by all_goals (simp_wf; try omega)
theorem sndSs : ∀ (s : Ss) {w : Wd} {k : Nat} {N : List Str} {xs : List String} {X : Cx} {py : List Stmt}, XSt w k N xs X → Takes X w.W → mSs N w.ren xs w.xf s X.env.scope py = true → PSs X py (semSs w s)
  | .nil, w, k, N, xs, X, py, hS, tk, hm => by
    cases py with
    | cons _ _ => simp [mSs] at hm
    | nil =>
      refine ⟨fun pins s σ H De I h => pss_nil.run pins s σ H De I ?_⟩
      obtain ⟨ev, Z, A, R, h⟩ := h
      exact h _ _ Z A (Same.refl _) R
  | .cons a b, w, k, N, xs, X, py, hS, tk, hm => by
    cases py with
    | nil => simp [mSs] at hm
    | cons y ys =>
      simp only [mSs, Bool.and_eq_true] at hm
      refine ⟨fun pins s σ H De I h => (pss_cons (sndS a hS tk hm.1) (sndSs b hS tk hm.2)).run pins s σ H De I ?_⟩
      obtain ⟨ev, Z, A, R, h⟩ := h
      refine ⟨ev, Z, A, R, ?_⟩
      simp only [evSs] at h
      cases hf : evS w.cf a ev with
      | bad => rw [hf] at h; exact h.elim
      | ex x e => rw [hf] at h; exact h
      | ok fl e =>
        rw [hf] at h
        cases fl with
        | nx => exact fun σ3 H3 Z3 A3 s3 R4 => ⟨e, Z3, A3, R4, OutS.same h s3⟩
        | ct => exact h
        | br => exact h
        | rt q => exact h
termination_by s => sizeOf s
decreasing_by all_goals (simp_wf; try omega)
end
end Bide

set_option autoImplicit false
set_option Elab.async false
set_option maxRecDepth 100000
set_option linter.all false
set_option maxHeartbeats 4000000
/-! A def of the text keeps what its core text computes. -/
namespace Bide
open PySem L2

/-- the parameters' addresses -/
def A0 (P : List (Nat × Addr)) (i : Nat) : List Addr := match P.lookup i with
  | some a => [a]
  | none => []
section
variable {K : PySem.W.Frag} {Z H Z' H' : Hp}
theorem Args.ge : ∀ {i : Nat} {bs : List Bool} {vs : List V} {ds : List D} {P : List (Nat × Addr)}, Args K Z H i bs vs ds P → ∀ j a, (j, a) ∈ P → i ≤ j
  | _, _, _, _, _, .nil i, j, a, h => by simp at h
  | _, _, _, _, _, .sh _ r, j, a, h => by have := r.ge j a h; omega
  | _, _, _, _, _, .io h1 h2 h3 h4 h5 r, j, a, h => by
    rcases List.mem_cons.mp h with e | h
    · cases e; exact Nat.le_refl _
    · have := r.ge j a h; omega
theorem Args.zn : ∀ {i : Nat} {bs : List Bool} {vs : List V} {ds : List D} {P : List (Nat × Addr)}, Args K Z H i bs vs ds P → ∀ j a, (j, a) ∈ P → Z a = none
  | _, _, _, _, _, .nil i, j, a, h => by simp at h
  | _, _, _, _, _, .sh _ r, j, a, h => r.zn j a h
  | _, _, _, _, _, .io h1 h2 h3 h4 h5 r, j, a, h => by
    rcases List.mem_cons.mp h with e | h
    · cases e; exact h4
    · exact r.zn j a h
theorem Args.inj : ∀ {i : Nat} {bs : List Bool} {vs : List V} {ds : List D} {P : List (Nat × Addr)}, Args K Z H i bs vs ds P → ∀ j j' a, (j, a) ∈ P → (j', a) ∈ P → j = j'
  | _, _, _, _, _, .nil i, j, j', a, h, _ => by simp at h
  | _, _, _, _, _, .sh _ r, j, j', a, h, h' => r.inj j j' a h h'
  | _, _, _, _, _, .io h1 h2 h3 h4 h5 r, j, j', a, h, h' => by
    rcases List.mem_cons.mp h with e | h
    · cases e
      rcases List.mem_cons.mp h' with e | h'
      · cases e; rfl
      · exact absurd h' (h5 j')
    · rcases List.mem_cons.mp h' with e | h'
      · cases e; exact absurd h (h5 j)
      · exact r.inj j j' a h h'
theorem Args.look : ∀ {i : Nat} {bs : List Bool} {vs : List V} {ds : List D} {P : List (Nat × Addr)}, Args K Z H i bs vs ds P → ∀ j a, (j, a) ∈ P ↔ P.lookup j = some a
  | _, _, _, _, _, .nil i, j, a => by simp
  | _, _, _, _, _, .sh _ r, j, a => r.look j a
  | _, _, _, _, _, .io (i := i) (a := b) h1 h2 h3 h4 h5 r, j, a => by
    rw [List.lookup_cons, List.mem_cons, r.look j a]
    by_cases e : j = i
    · subst e
      simp only [beq_self_eq_true, Prod.mk.injEq, true_and, Option.some.injEq]
      constructor
      · rintro (rfl | h)
        · rfl
        · have := r.ge j a ((r.look j a).mpr h); omega
      · intro h; exact .inl h.symm
    · have e' : (j == i) = false := by simp [e]
      rw [e']
      simp [e]
theorem Args.start : ∀ {i : Nat} {bs : List Bool} {vs : List V} {ds : List D} {P : List (Nat × Addr)}, Args K Z H i bs vs ds P → ∀ {ev : Ev}, startE bs ds = some ev →
    ev.length = vs.length ∧ (∀ j sv, ev[j]? = some sv → SlR K Z H (vs.map some)[j]? (A0 P (i + j)) sv) ∧ (∀ j a, (i + j, a) ∈ P → ∃ ds, ev[j]? = some (.io ds)) ∧ (∀ j ds, ev[j]? = some (.io ds) → ∃ a, (i + j, a) ∈ P)
  | _, _, _, _, _, .nil i, ev, e => by
    cases e
    exact ⟨rfl, fun j sv h => by simp at h, fun j a h => by simp at h, fun j ds h => by simp at h⟩
  | i, _, _, _, P, .sh (v := v) hv r, ev, e => by
    simp only [startE, Option.map_eq_some_iff] at e
    obtain ⟨ev', e1, rfl⟩ := e
    obtain ⟨q1, q2, q3, q4⟩ := r.start e1
    have nl : P.lookup i = none := by
      cases h : P.lookup i with
      | none => rfl
      | some a => have := r.ge i a ((r.look i a).mpr h); omega
    refine ⟨by simp [q1], fun j sv h => ?_, fun j a h => ?_, fun j ds h => ?_⟩
    · cases j with
      | zero =>
        simp at h
        subst h
        refine ⟨?_, v, rfl, hv⟩
        unfold A0
        rw [Nat.add_zero, nl]
      | succ j =>
        have := q2 j sv (by simpa using h)
        rw [show i + (j + 1) = i + 1 + j by omega]
        simpa using this
    · cases j with
      | zero => have := r.ge (i + 0) a h; omega
      | succ j =>
        rw [show i + (j + 1) = i + 1 + j by omega] at h
        simpa using q3 j a h
    · cases j with
      | zero => simp at h
      | succ j =>
        rw [show i + (j + 1) = i + 1 + j by omega]
        exact q4 j ds (by simpa using h)
  | i, _, _, _, _, .io (a := a) (xs := xs) (P := P) h1 h2 h3 h4 h5 r, ev, e => by
    simp only [startE, Option.map_eq_some_iff] at e
    obtain ⟨ev', e1, rfl⟩ := e
    obtain ⟨q1, q2, q3, q4⟩ := r.start e1
    refine ⟨by simp [q1], fun j sv h => ?_, fun j b h => ?_, fun j ds h => ?_⟩
    · cases j with
      | zero =>
        simp at h
        subst h
        refine ⟨a, rfl, ?_, xs, h1, h2, h3⟩
        unfold A0
        rw [Nat.add_zero, List.lookup_cons]
        simp
      | succ j =>
        have := q2 j sv (by simpa using h)
        rw [show i + (j + 1) = i + 1 + j by omega]
        have e2 : A0 ((i, a) :: P) (i + 1 + j) = A0 P (i + 1 + j) := by
          unfold A0
          rw [List.lookup_cons, show (i + 1 + j == i) = false by simp; omega]
        rw [e2]
        simpa using this
    · cases j with
      | zero => exact ⟨_, rfl⟩
      | succ j =>
        rw [show i + (j + 1) = i + 1 + j by omega] at h
        rcases List.mem_cons.mp h with e | h
        · have := congrArg Prod.fst e
          simp only at this
          omega
        · simpa using q3 j b h
    · cases j with
      | zero => exact ⟨a, by simp⟩
      | succ j =>
        rw [show i + (j + 1) = i + 1 + j by omega]
        obtain ⟨b, hb⟩ := q4 j ds (by simpa using h)
        exact ⟨b, List.mem_cons_of_mem _ hb⟩
theorem A0_mem {i : Nat} {bs : List Bool} {vs : List V} {ds : List D} {P : List (Nat × Addr)} (h : Args K Z H i bs vs ds P) {j : Nat} {a : Addr} : a ∈ A0 P j ↔ (j, a) ∈ P := by
  rw [h.look j a]
  unfold A0
  cases P.lookup j with
  | none => simp
  | some b =>
    simp only [List.mem_singleton, Option.some.injEq]
    exact eq_comm
/-- the state at the entry -/
theorem Args.rs {bs : List Bool} {vs : List V} {ds : List D} {P : List (Nat × Addr)} {N : List Str} {ev : Ev} (h : Args K Z H 0 bs vs ds P) (s : Same Z H) (nz : NoT Z) {ca : String → Option Addr} (tb : TbOk ca H) (e : startE bs ds = some ev) (hn : vs.length ≤ N.length) :
    RS K ⟨H, Z, P, fun _ => none, ca⟩ (L2.start N vs) H Z (ev ++ List.replicate (N.length - ev.length) .no) (A0 P) := by
  obtain ⟨q1, q2, q3, q4⟩ := h.start e
  have hs : ∀ j, j < vs.length → (L2.start N vs)[j]? = (vs.map some)[j]? := fun j hj => by
    unfold L2.start
    rw [List.getElem?_append_left (by simpa using hj)]
  exact {
    len := by unfold L2.start; simp [q1]
    sub := s
    z0 := Same.refl _
    zf := fun p o e => .inl e
    fr := fun p o e _ _ => e
    tk := fun p ps e => ⟨ps, e⟩
    nz := nz
    tb := tb
    fz := fun p ps e => by cases e
    sl := fun i sv e => by
      by_cases hi : i < ev.length
      · rw [List.getElem?_append_left hi] at e
        rw [hs i (by omega)]
        have := q2 i sv e
        rwa [Nat.zero_add] at this
      · rw [List.getElem?_append_right (by omega), List.getElem?_replicate] at e
        split at e
        · cases e
          show A0 P i = []
          cases hA : A0 P i with
          | nil => rfl
          | cons a r =>
            have hm := (A0_mem h (j := i) (a := a)).mp (by rw [hA]; simp)
            obtain ⟨ds, hd⟩ := q3 i a (by rw [Nat.zero_add]; exact hm)
            have := (List.getElem?_eq_some_iff.mp hd).1
            omega
        · cases e
    out := fun i hi => by
      cases hA : A0 P i with
      | nil => rfl
      | cons a r =>
        have hm := (A0_mem h (j := i) (a := a)).mp (by rw [hA]; simp)
        obtain ⟨ds, hd⟩ := q3 i a (by rw [Nat.zero_add]; exact hm)
        have := (List.getElem?_eq_some_iff.mp hd).1
        simp at hi
        omega
    zo := fun i a hm => h.zn i a ((A0_mem h).mp hm)
    ao := fun i a hm => .inl ⟨i, (A0_mem h).mp hm⟩
    dis := fun i j a h1 h2 => h.inj i j a ((A0_mem h).mp h1) ((A0_mem h).mp h2)
    nod := fun i => by
      unfold A0
      split <;> simp
    io := fun i a hm => by
      obtain ⟨ds, hd⟩ := q3 i a (by rw [Nat.zero_add]; exact hm)
      refine ⟨?_, ds, ?_⟩
      · unfold A0
        rw [(h.look i a).mp hm]
      · rw [List.getElem?_append_left (List.getElem?_eq_some_iff.mp hd).1]
        exact hd
    oi := fun i ds hd => by
      by_cases hi : i < ev.length
      · rw [List.getElem?_append_left hi] at hd
        obtain ⟨a, ha⟩ := q4 i ds hd
        exact ⟨a, by rwa [Nat.zero_add] at ha⟩
      · rw [List.getElem?_append_right (by omega), List.getElem?_replicate] at hd
        split at hd <;> cases hd
    pf := fun p o e => by cases e
    ft := fun p o e => by cases e }
/-- what the lent lists are, at the end -/
theorem Args.outs {c : En} {σ : L2.St} {A : Nat → List Addr} {e0 : Ev} (R : RS K c σ H' Z' e0 A) : ∀ {i : Nat} {bs : List Bool} {vs : List V} {ds : List D} {P : List (Nat × Addr)} {e : Ev} {o : List (List D)}, Args K Z H i bs vs ds P → (∀ q, q ∈ P → q ∈ c.P) → e = e0.drop i → outsE e bs = some o → Outs K Z' H' P o
  | _, _, _, _, _, e, o, .nil i, hp, he, ho => by
    cases e <;> (simp only [outsE] at ho; cases ho; exact .nil)
  | i, _, _, _, _, e, o, .sh (bs := bs) _ r, hp, he, ho => by
    cases e with
    | nil => simp [outsE] at ho
    | cons y ys =>
      have ho' : outsE ys bs = some o := by
        cases y <;> simpa [outsE] using ho
      refine Args.outs R r hp ?_ ho'
      have := congrArg (List.drop 1) he
      rw [List.drop_drop] at this
      simpa using this
  | i, _, _, _, _, e, o, .io (a := a) h1 h2 h3 h4 h5 r, hp, he, ho => by
    cases e with
    | nil => simp [outsE] at ho
    | cons y ys =>
      cases y <;> simp only [outsE] at ho <;> first | (cases ho; done) | skip
      rename_i xs
      simp only [Option.map_eq_some_iff] at ho
      obtain ⟨o', ho', rfl⟩ := ho
      have h0 : e0[i]? = some (.io xs) := by
        have := congrArg (fun z => z[0]?) he
        simpa using this.symm
      obtain ⟨hA, _⟩ := R.io i a (hp _ (by simp))
      obtain ⟨b, hb, eA, zs, g1, g2, g3⟩ := R.sl i _ h0
      rw [hA] at eA
      cases eA
      refine .cons g1 g2 g3 (R.zo i a (by rw [hA]; simp)) (Args.outs R r (fun q hq => hp q (List.mem_cons_of_mem _ hq)) ?_ ho')
      have := congrArg (List.drop 1) he
      rw [List.drop_drop] at this
      simpa using this
end
/-- the end of a body -/
theorem out_of {w : Wd} {n : Nat} {bs : List Bool} {body : Ss} {vs : List V} {ds : List D} {P : List (Nat × Addr)} {N : List Str} {H Z : Hp} {Q : VK} {E : XK} {ev : Ev} (hn : n = N.length) {ca : String → Option Addr} (hw : w.c = ⟨H, Z, P, fun _ => none, ca⟩) (hW : w.W = fun cls d _ H => E cls d H) (ha : Args w.K Z H 0 bs vs ds P) (he : startE bs ds = some ev)
    (h : match runF w.cf n bs body ds with
      | .ok r outs => ∀ x H' Z', Post ca Z H Z' H' P → Outs w.K Z' H' P outs → New w.K H Z' H' x r → Q x H'
      | .ex x => ∀ cls dd H' Z', Post ca Z H Z' H' P → ExOk w.K ca w.xf x cls dd H' Z' → E cls dd H'
      | .bad => False) : OutS w Z (evSs w.cf body (ev ++ List.replicate (N.length - ev.length) .no)) { nx := fun _ H' => Q .non H', rt := Q } := by
  have post : ∀ {σ H' Z' e A'}, RS w.K w.c σ H' Z' e A' → Post ca Z H Z' H' P := fun {σ H' Z' e A'} R => by
    rw [hw] at R
    exact ⟨R.z0, R.sub, R.zf, R.fr, R.tk, R.nz, R.tb⟩
  have outs : ∀ {σ H' Z' e A' o}, RS w.K w.c σ H' Z' e A' → outsE e bs = some o → Outs w.K Z' H' P o := fun {σ H' Z' e A' o} R ho => by
    exact Args.outs R ha (by rw [hw]; exact fun _ q => q) rfl ho
  have hh : ∀ {σ H' Z' e A' x r}, RS w.K w.c σ H' Z' e A' → (∀ i, r ≠ .s i) → RR w.K w.c σ H' Z' e A' x r → New w.K H Z' H' x r := fun {σ H' Z' e A' x r} R hr q => by
    cases r with
    | v d => exact q
    | s i => exact absurd rfl (hr i)
    | f o =>
      obtain ⟨a, as, e1, oc, nd, hb⟩ := q
      refine ⟨a, as, e1, oc, nd, fun b hm => ⟨(hb b hm).1, ?_⟩⟩
      have := (hb b hm).2.1
      rw [hw] at this
      exact this
  unfold runF at h
  rw [he, hn] at h
  simp only at h
  cases hf : evSs w.cf body (ev ++ List.replicate (N.length - ev.length) .no) with
  | bad => rw [hf] at h; exact h.elim
  | ex x e =>
    rw [hf] at h
    intro σ H' Z' A' cls dd s R xo
    rw [hW]
    exact h cls dd H' Z' (post R) (by have q := xo; rw [show w.ca = ca from by rw [Wd.ca, hw]] at q; exact q)
  | ok a e =>
    rw [hf] at h
    cases a with
    | br => exact h.elim
    | ct => exact h.elim
    | nx =>
      simp only at h
      intro σ H' Z' A' s R
      split at h
      · rename_i r o hq
        split at hq
        · rename_i o' ho
          cases hq
          exact h .non H' Z' (post R) (outs R ho) .non
        · cases hq
      · rename_i hq
        split at hq <;> cases hq
      · exact h.elim
    | rt r =>
      cases r with
      | s i => exact h.elim
      | v d =>
        simp only at h
        intro σ H' Z' A' x s R q
        split at h
        · rename_i r o hq
          split at hq
          · rename_i o' ho
            cases hq
            exact h x H' Z' (post R) (outs R ho) (hh R (fun _ => by simp) q)
          · cases hq
        · rename_i hq
          split at hq <;> cases hq
        · exact h.elim
      | f d =>
        simp only at h
        intro σ H' Z' A' x s R q
        split at h
        · rename_i r o hq
          split at hq
          · rename_i o' ho
            cases hq
            exact h x H' Z' (post R) (outs R ho) (hh R (fun _ => by simp) q)
          · cases hq
        · rename_i hq
          split at hq <;> cases hq
        · exact h.elim
end Bide

set_option autoImplicit false
set_option Elab.async false
set_option maxRecDepth 100000
set_option linter.all false
set_option maxHeartbeats 4000000
/-! Defs, one after another. -/
namespace Bide
open PySem L2

def Def.names (d : Def) : List Str := d.N.map sN
def Def.ps (d : Def) : List Str := d.names.take d.np
def scB (N P : List Str) (sc : Scope) : Bool := decide (sc.kind = .function) && (!sc.isCoroutine && (!sc.isGenerator && (decide N.Nodup && (decide (N.take P.length = P) && (P.all (fun x => decide (sc.names.lookup x = some .local) || decide (sc.names.lookup x = some .cell)) && sc.names.all fun y => decide (y.2 ≠ .free))))))
theorem scB_ok {N P : List Str} {sc : Scope} (h : scB N P sc = true) : FnScope N P sc := by
  simp only [scB, Bool.and_eq_true, decide_eq_true_eq, Bool.not_eq_true', List.all_eq_true, Bool.or_eq_true] at h
  obtain ⟨h1, h2, h3, h4, h5, h6, h7⟩ := h
  exact ⟨h1, h2, h3, h4, h5, h6, h7⟩
def Def.chk (xs : List String) (xf : String → List String) (d : Def) (st : Stmt) : Bool := scB d.names d.ps (defScope st) && (decide (d.io.length = d.np) && (decide (d.np ≤ d.N.length) && mSs d.names id xs xf d.body (defScope st) (defBody st)))

/-- the program's surroundings -/
structure Wl where
  P : Program
  w : World
  K : PySem.W.Frag
  mg : Str → Option Value
  base : Heap
  ca : String → Option Addr
  xf : String → List String
  xs : List String
def FnsOk (W : Wl) (k : Nat) (c : Cf) : Prop := ∀ f F, c.G f = some F → ∃ a fd ps, W.mg (sN f) = some (.ref a) ∧ PySem.W.keepIn W.K (.ref a) = true ∧ Binds W.K fd ps [] ∧ FnOk W.P W.w W.K W.mg W.base (L2.CX W.P W.w) k a fd ps (spOf W.K W.ca W.xf F)
def GlsOk (W : Wl) (c : Cf) : Prop := ∀ x d, c.gl x = some d → ∃ v u, W.mg (sN x) = some u ∧ RelV v u ∧ ∀ Z, Rp W.K Z v d
def XsOk (W : Wl) : Prop := ∀ (X : Cx) (k : Nat), X.prog = W.P → X.w = W.w → X.K = W.K → X.mg = W.mg → X.base = W.base → X.calm = true → 1 ≤ k → Room (k + 1) X.A → ∀ n ∈ W.xs, ∀ (e : Expr) (es : List Expr) (ta : TA) (p pos : Pos), Gl X (sN n) → PA X (e :: es) ta → (starEach (e :: es) X.env = (false, eval e X.env) :: starEach es X.env) → ((backTo pos (starEach es X.env)).any (·.1) = false) → (es.length + 1 = (W.xf n).length) →
    PMk X (.Call (.Name (sN n) p) (e :: es) [] pos) (fun σ H Q => ta σ H fun vs H1 => ∃ Z ds, Same Z H1 ∧ Rps X.K Z vs ds ∧ ds.length = (W.xf n).length ∧ ∀ cls dd H', Same H1 H' → ExOk X.K W.ca W.xf ⟨n, ds⟩ cls dd H' Z → Q cls dd H')
structure WlOk (W : Wl) : Prop where
  blt : ∀ x ∈ bltNames, W.mg (sN x) = none
  exs : XsOk W
  xc : XcOk W.K W.mg (clsOf W.ca) W.xf
section
variable {W : Wl}
theorem FnsOk.mono {j k : Nat} {c : Cf} (h : FnsOk W j c) (l : j ≤ k) : FnsOk W k c := fun f F e => by
  obtain ⟨a, fd, ps, h1, h2, h3, h4⟩ := h f F e
  exact ⟨a, fd, ps, h1, h2, h3, h4.mono l⟩
theorem Args.len {K : PySem.W.Frag} {Z H : Hp} : ∀ {i : Nat} {bs : List Bool} {vs : List V} {ds : List D} {P : List (Nat × Addr)}, Args K Z H i bs vs ds P → vs.length = bs.length
  | _, _, _, _, _, .nil i => rfl
  | _, _, _, _, _, .sh _ r => by simp [r.len]
  | _, _, _, _, _, .io _ _ _ _ _ r => by simp [r.len]
theorem startE_of {K : PySem.W.Frag} {Z H : Hp} : ∀ {i : Nat} {bs : List Bool} {vs : List V} {ds : List D} {P : List (Nat × Addr)}, Args K Z H i bs vs ds P → ∃ ev, startE bs ds = some ev
  | _, _, _, _, _, .nil i => ⟨[], rfl⟩
  | _, _, _, _, _, .sh _ r => by
    obtain ⟨ev, e⟩ := startE_of r
    exact ⟨_, by simp only [startE, e]; rfl⟩
  | _, _, _, _, _, .io _ _ _ _ _ r => by
    obtain ⟨ev, e⟩ := startE_of r
    exact ⟨_, by simp only [startE, e]; rfl⟩
theorem lam_ne (x : String) : "<lambda> " ++ x ≠ "<lambda>" := fun e => by
  have q := congrArg String.length e
  rw [String.length_append, show "<lambda> ".length = 9 from by decide, show "<lambda>".length = 8 from by decide] at q
  omega
/-- a def keeps its promise -/
theorem def_ok {d : Def} {st : Stmt} {c : Cf} {k : Nat} {f : Addr} {fd : FuncData} (hW : WlOk W) (k1 : 1 ≤ k) (hk : FnsOk W k c) (hg : GlsOk W c) (F : FunD W.K (sN d.x) (sN d.x) (defArgs st) (defBody st) (defScope st) [] [] f fd) (hc : d.chk W.xs W.xf st = true) :
    FnOk W.P W.w W.K W.mg W.base (L2.CX W.P W.w) (k + 1 + 1) f fd d.ps (spOf W.K W.ca W.xf (d.fn c)) := by
  simp only [Def.chk, Bool.and_eq_true, decide_eq_true_eq] at hc
  obtain ⟨h1, h2, h3, h4⟩ := hc
  have S := scB_ok h1
  have lps : d.ps.length = d.np := by unfold Def.ps; rw [List.length_take]; unfold Def.names; rw [List.length_map]; omega
  have lN : d.N.length = d.names.length := by unfold Def.names; rw [List.length_map]
  refine F.ok S (fun vs H Q E h => ?_) fun cdv A outer s H vs Q E hr h => ?_
  · obtain ⟨Z, ds, P, sz, _, _, ha, _⟩ := h
    rw [ha.len, lps]
    exact h2
  · obtain ⟨Z, ds, P, sz, nz, tb, ha, h⟩ := h
    have hl : vs.length ≤ d.names.length := by
      have := ha.len
      have h2' : (d.fn c).io.length = d.np := h2
      omega
    obtain ⟨ev, he⟩ := startE_of ha
    refine ⟨semSs ⟨W.K, c, id, W.xf, ⟨H, Z, P, fun _ => none, W.ca⟩, fun cls dd _ H => E cls dd H⟩ d.body, sndSs d.body (k := k + 1) (N := d.names) (xs := W.xs) ?_ (takes_of rfl rfl rfl rfl) h4, ?_⟩
    · exact {
        x := {
          K := rfl
          N := rfl
          calm := rfl
          nd := S.nd
          room := hr
          fns := hk.mono (Nat.le_succ k)
          gls := hg
          blt := hW.blt
          fn := fun _ _ => rfl
          lam := fun x e => absurd e (lam_ne x) }
        kind := S.kind
        pass := PassesOwn.leaving
        exs := fun n hn => hW.exs _ k rfl rfl rfl rfl rfl rfl k1 hr n hn
        stk := rfl
        frm := rfl
        xc := hW.xc }
    · exact ⟨_, Z, _, ha.rs sz nz tb he hl, out_of (w := ⟨W.K, c, id, W.xf, ⟨H, Z, P, fun _ => none, W.ca⟩, fun cls dd _ H => E cls dd H⟩) (N := d.names) lN rfl rfl ha he h⟩
theorem FnsOk.put {k j : Nat} {c : Cf} {x : String} {F : Fn} {f : Addr} {fd : FuncData} {ps : List Str} (h : FnsOk W k c) (l : k ≤ j) (g : W.mg (sN x) = some (.ref f)) (kp : PySem.W.keepIn W.K (.ref f) = true) (b : Binds W.K fd ps [])
    (hF : FnOk W.P W.w W.K W.mg W.base (L2.CX W.P W.w) j f fd ps (spOf W.K W.ca W.xf F)) : FnsOk W j (c.put x F) := fun y G e => by
  unfold Cf.put at e
  simp only at e
  split at e
  · rename_i hy
    cases e
    subst hy
    exact ⟨f, fd, ps, g, kp, b, hF⟩
  · exact h.mono l y G e
theorem rec_ok {d : Def} {st : Stmt} {c : Cf} {k : Nat} {f : Addr} {fd : FuncData} (hW : WlOk W) (k1 : 1 ≤ k) (hk : FnsOk W k c) (hg : GlsOk W c) (F : FunD W.K (sN d.x) (sN d.x) (defArgs st) (defBody st) (defScope st) [] [] f fd) (hc : d.chk W.xs W.xf st = true)
    (g : W.mg (sN d.x) = some (.ref f)) (b : Binds W.K fd d.ps []) : ∀ n, FnOk W.P W.w W.K W.mg W.base (L2.CX W.P W.w) (k + 2 * n) f fd d.ps (spOf W.K W.ca W.xf (d.again c n))
  | 0 => ⟨fun vs H Q E ⟨_, _, _, _, _, _, _, h⟩ => h.elim, fun A outer s H args us vs Q E _ _ _ _ ⟨_, _, _, _, _, _, _, h⟩ => h.elim⟩
  | n + 1 => by
    have ih := rec_ok hW k1 hk hg F hc g b n
    exact def_ok (k := k + 2 * n) hW (by omega) (hk.put (Nat.le_add_right k (2 * n)) g F.kp b ih) hg F hc
/-- one def more -/
theorem step {d : Def} {st : Stmt} {c : Cf} {k : Nat} {f : Addr} {fd : FuncData} (hW : WlOk W) (k1 : 1 ≤ k) (hk : FnsOk W k c) (hg : GlsOk W c) (F : FunD W.K (sN d.x) (sN d.x) (defArgs st) (defBody st) (defScope st) [] [] f fd) (hc : d.chk W.xs W.xf st = true)
    (g : W.mg (sN d.x) = some (.ref f)) (b : Binds W.K fd d.ps []) : FnsOk W (k + 2 * d.cost) (d.add c) ∧ GlsOk W (d.add c) := by
  refine ⟨?_, hg⟩
  unfold Def.add Def.F Def.cost
  cases d.rc with
  | zero => exact hk.put (by omega) g F.kp b (def_ok hW k1 hk hg F hc)
  | succ n => exact hk.put (by omega) g F.kp b (rec_ok hW k1 hk hg F hc g b (n + 1))
/-- no own exception classes are needed -/
theorem clsOf_none : clsOf (fun _ => none) = fun _ => none := by
  funext x
  unfold clsOf
  split <;> rfl
theorem xc_none {K : PySem.W.Frag} {mg : Str → Option Value} : XcOk K mg (clsOf fun _ => none) (fun _ => []) := by
  rw [clsOf_none]
  exact ⟨fun _ h => absurd rfl h, fun _ _ e => (by cases e), fun _ _ e => (by cases e), fun _ _ e => (by cases e), fun _ _ _ _ e => (by cases e), fun _ h => absurd rfl h, fun _ h => absurd rfl h, fun _ _ e => (by cases e), fun _ _ _ _ e => (by cases e), fun _ _ e => (by cases e)⟩
/-- all but the tables -/
def hideT (H : Hp) : Hp := fun p => match H p with
  | some (.tbl _) => none
  | o => o
theorem hideT_sub {H : Hp} : Same (hideT H) H := fun p o e => by
  unfold hideT at e
  split at e
  · cases e
  · exact e
theorem hideT_no {H : Hp} : NoT (hideT H) := fun p ps e => by
  unfold hideT at e
  split at e
  · cases e
  · rename_i h
    exact h ps e
theorem hideT_some {H : Hp} {p : Addr} {o : HO} (e : H p = some o) (n : ∀ ps, o ≠ .tbl ps) : hideT H p = some o := by
  unfold hideT
  rw [e]
  cases o <;> first | rfl | exact absurd rfl (n _)
theorem hideT_seq {K : PySem.W.Frag} {H : Hp} {a : Addr} {xs : List V} (h : SqL K H a xs) : SqL K (hideT H) a xs := by
  rcases h with (h | ⟨o, h⟩) | h
  · exact .inl (.inl (hideT_some h fun _ e => by cases e))
  · exact .inl (.inr ⟨o, hideT_some h fun _ e => by cases e⟩)
  · exact .inr h
/-- the law's promise -/
theorem law_sp {K : PySem.W.Frag} {ca : String → Option Addr} {xf : String → List String} {F : Fn} {n : Nat} (hn : n ≤ 1000) (hio : F.io = [false]) (hca : ∀ x, ca ("<lambda> " ++ x) = none) (h : ∀ ns : List Int, ns.length ≤ n → F.run [.dict [(.none, .list (ns.map PyData.int))]] = .ok (.v (.bool true)) []) :
    ∀ (H : Hp) (a : Addr) (ns : List Int), ns.length ≤ n → SqL K H a (ns.map V.int) → spOf K ca xf F [.ref a] H (fun v _ => v = .bl true) fun _ _ _ => False := by
  intro H a ns hl hS
  refine ⟨hideT H, [.dict [(.none, .list (ns.map PyData.int))]], [], hideT_sub, hideT_no, (show TbOk ca H from by
    intro x P e
    rw [hca] at e
    cases e), ?_, ?_⟩
  · rw [hio]
    exact .sh (.scr (hideT_seq hS) (by rw [List.length_map]; exact Nat.le_of_lt (small1000 (by omega))) (Rps.ofInts ns)) (.nil _)
  · rw [h ns hl]
    intro x H' Z' _ _ nw
    cases nw
    rfl
theorem law_sp0 {K : PySem.W.Frag} {ca : String → Option Addr} {xf : String → List String} {F : Fn} {n : Nat} (hn : n ≤ 1000) (hio : F.io = [false]) (hca : ∀ x, ca ("<lambda> " ++ x) = none) (h : ∀ ns : List Int, ns.length ≤ n → F.run [.dict [(.none, .list (ns.map PyData.int))]] = .ok (.v (.bool true)) []) :
    ∀ (H : Hp) (a : Addr) (ns : List Int), ns.length ≤ n → Only H → SqL K H a (ns.map V.int) → (fun vs H Q _ => spOf K ca xf F vs H Q E0 : Sp) [.ref a] H (fun v _ => v = .bl true) fun _ _ _ => False := fun H a ns hl _ hS => law_sp hn hio hca h H a ns hl hS
theorem fn_cx0 {P : Program} {w : World} {K : PySem.W.Frag} {mg : Str → Option Value} {base : Heap} {k : Nat} {f : Addr} {fd : FuncData} {ps : List Str} {sp : Sp} (h : FnOk P w K mg base (L2.CX P w) k f fd ps sp) :
    FnOk P w K mg base CX0 k f fd ps (fun vs H Q _ => sp vs H Q E0) := by
  refine ⟨fun vs H Q E q => h.len vs H Q E0 q, fun A outer s H args us vs Q E hr e0 hb hv hs => ?_⟩
  refine codeAny_mono (h.run A outer s H args us vs Q E0 hr e0 hb hv hs) fun r s' q => ?_
  cases r with
  | ok r => cases r <;> exact q
  | error e =>
    obtain ⟨_, _, _, _, _, _, _, _, _, _, _, _, z⟩ := q
    exact z.elim
theorem look_mem {β : Type} {x : String} {b : β} : ∀ {l : List (String × β)}, l.lookup x = some b → (x, b) ∈ l
  | [], h => by simp at h
  | (y, c) :: r, h => by
    rw [List.lookup_cons] at h
    by_cases e : x = y
    · subst e
      simp at h
      subst h
      simp
    · have e' : (x == y) = false := by simp [e]
      rw [e'] at h
      exact List.mem_cons_of_mem _ (look_mem h)
theorem gls_int {consts : List (String × Int)} {G : String → Option Fn} (h : ∀ p ∈ consts, ∃ t, W.mg (sN p.1) = some (.int p.2 t)) : GlsOk W ⟨G, fun x => (consts.lookup x).map PyData.int⟩ := fun x d e => by
  obtain ⟨i, e1, rfl⟩ := Option.map_eq_some_iff.mp e
  obtain ⟨t, ht⟩ := h (x, i) (look_mem e1)
  exact ⟨.int i, _, ht, ⟨t, rfl⟩, fun Z => .int i⟩
/-! ### constants that are tuples -/
theorem rps_dv {K : PySem.W.Frag} {Z : Hp} : ∀ {ds : List D}, ds.all flatC = true → Rps K Z ((ds.map dvOf).map (He.Dv.v K)) ds
  | [], _ => .nil
  | d :: ds, h => by
    simp only [List.all_cons, Bool.and_eq_true] at h
    refine .cons ?_ (rps_dv h.2)
    have h1 := h.1
    cases d <;> first | (simp [flatC] at h1; done) | constructor
theorem gls_all {h : Heap} (X : W.K.In h) (Gm : h.Ns mainGlobals W.mg) {cI : List (String × Int)} {cT : List (String × List D)} {G : String → Option Fn} (hI : ∀ p ∈ cI, ∃ t, W.mg (sN p.1) = some (.int p.2 t)) (hT : tupsB cT W.K = true) :
    GlsOk W ⟨G, fun x => match cI.lookup x with
      | some i => some (.int i)
      | none => (cT.lookup x).map fun ds => .dict [(.none, .tuple ds)]⟩ := fun x d e => by
  simp only at e
  split at e
  · rename_i i e1
    cases e
    obtain ⟨t, ht⟩ := hI (x, i) (look_mem e1)
    exact ⟨.int i, _, ht, ⟨t, rfl⟩, fun Z => .int i⟩
  · obtain ⟨ds, e1, rfl⟩ := Option.map_eq_some_iff.mp e
    have q := List.all_eq_true.mp hT (x, ds) (look_mem e1)
    simp only [Bool.and_eq_true, decide_eq_true_eq] at q
    obtain ⟨q1, q2, q3, q4⟩ := q
    refine ⟨.ref (He.ga W.K (sN x)), _, PySem.W.mg_of X Gm (He.eqO_ok q1), rfl, fun Z => .ktup (He.tupB_ok q2 _) ?_ (rps_dv q3)⟩
    rw [List.length_map, List.length_map]
    exact Nat.le_of_lt (small1000 q4)
end
/-! ### the head's hook, with a further test of what stands behind the top -/
section
open He
theorem SaysE.both {fa : List Fa} {fn : List DefD} {ex : PySem.W.Frag → Bool} {K : PySem.W.Frag} (c : SaysE fa fn ex K) : SaysD fa fn K ∧ ex K = true := by
  have c1 : ((obsD fa fn K).1 && ex K) = true := by
    have q := congrArg (fun z : AlD => z.1) c
    exact q
  have c2 : (obsD fa fn K).2 = (valD fn).2 := by
    have q := congrArg (fun z : AlD => z.2) c
    exact q
  obtain ⟨h1, h2⟩ := Bool.and_eq_true_iff.mp c1
  exact ⟨Prod.ext h1 c2, h2⟩
end
end Bide

set_option autoImplicit false
set_option Elab.async false
set_option maxRecDepth 100000
set_option linter.all false
set_option maxHeartbeats 4000000
/-! A def that makes a lambda; the head with its table. -/
namespace Bide
open PySem L2 He
/-- the lambda's name is told to the matcher -/
def lamR (x : String) : String → String := fun s => if s = "<lambda> " ++ x then "<lambda>" else s
theorem lamR_eq {x y : String} (h : lamR x ("<lambda> " ++ y) = "<lambda>") : y = x := by
  unfold lamR at h
  split at h
  · rename_i e
    have q := congrArg String.toList e
    rw [String.toList_append, String.toList_append] at q
    exact String.toList_inj.mp (List.append_cancel_left q)
  · exact absurd h (lam_ne y)
def Def.chkL (x : String) (xs : List String) (xf : String → List String) (d : Def) (st : Stmt) : Bool := scB d.names d.ps (defScope st) && (decide (d.io.length = d.np) && (decide (d.np ≤ d.N.length) && mSs d.names (lamR x) xs xf d.body (defScope st) (defBody st)))
variable {W : Wl}
/-- a def that makes a lambda keeps its promise -/
theorem def_okL {d : Def} {st : Stmt} {c : Cf} {k : Nat} {f : Addr} {fd : FuncData} {x : String} {C T : Addr} (hW : WlOk W) (k1 : 1 ≤ k) (hk : FnsOk W k c) (hg : GlsOk W c) (F : FunD W.K (sN d.x) (sN d.x) (defArgs st) (defBody st) (defScope st) [] [] f fd) (hc : d.chkL x W.xs W.xf st = true)
    (hcd : fd.code = .ref C) (TB : LamX.TabB W.base W.mg C T) (hca : W.ca ("<lambda> " ++ x) = some T) (hx : sN d.x ++ ".<locals>." ++ "<lambda>" = Str.ofString x) (one : ∀ y T', W.ca ("<lambda> " ++ y) = some T' → y ≠ x → T' ≠ T) (hG : c.G ("<lambda> " ++ x) = none) :
    FnOk W.P W.w W.K W.mg W.base (L2.CX W.P W.w) (k + 1 + 1) f fd d.ps (spOf W.K W.ca W.xf (d.fn c)) := by
  simp only [Def.chkL, Bool.and_eq_true, decide_eq_true_eq] at hc
  obtain ⟨h1, h2, h3, h4⟩ := hc
  have S := scB_ok h1
  have lps : d.ps.length = d.np := by unfold Def.ps; rw [List.length_take]; unfold Def.names; rw [List.length_map]; omega
  have lN : d.N.length = d.names.length := by unfold Def.names; rw [List.length_map]
  obtain ⟨oc, od, dV, kV, doc, pm, an, cdv, ct, osl, rfl, lk, hcdI, _, _⟩ := F.ex
  have hcd : cdv = .ref C := hcd
  subst hcd
  refine fn_of lk hcdI S (fun vs H Q E h => ?_) fun A outer s H vs Q E hr h => ?_
  · obtain ⟨Z, ds, P, sz, _, _, ha, _⟩ := h
    rw [ha.len, lps]
    exact h2
  · obtain ⟨Z, ds, P, sz, nz, tb, ha, h⟩ := h
    have hl : vs.length ≤ d.names.length := by
      have := ha.len
      have h2' : (d.fn c).io.length = d.np := h2
      omega
    obtain ⟨ev, he⟩ := startE_of ha
    refine ⟨semSs ⟨W.K, c, lamR x, W.xf, ⟨H, Z, P, fun _ => none, W.ca⟩, fun cls dd _ H => E cls dd H⟩ d.body, sndSs d.body (k := k + 1) (N := d.names) (xs := W.xs) ?_ (takes_of rfl rfl rfl rfl) h4, ?_⟩
    · exact {
        x := {
          K := rfl
          N := rfl
          calm := rfl
          nd := S.nd
          room := hr
          fns := fun g G e => by
            obtain ⟨a, fd', ps, q1, q2, q3, q4⟩ := hk.mono (Nat.le_succ k) g G e
            refine ⟨a, fd', ps, ?_, q2, q3, q4⟩
            show W.mg (sN (lamR x g)) = _
            have hne : g ≠ "<lambda> " ++ x := fun y => by
              have e' : c.G g = some G := e
              rw [y, hG] at e'; cases e'
            rw [show lamR x g = g from if_neg hne]
            exact q1
          gls := hg
          blt := hW.blt
          fn := fun _ _ => rfl
          lam := fun y e => by
            cases lamR_eq e
            exact ⟨T, C, hca, hx, rfl, TB, one⟩ }
        kind := S.kind
        pass := PassesOwn.leaving
        exs := fun n hn => hW.exs _ k rfl rfl rfl rfl rfl rfl k1 hr n hn
        stk := rfl
        frm := rfl
        xc := hW.xc }
    · exact ⟨_, Z, _, ha.rs sz nz tb he hl, out_of (w := ⟨W.K, c, lamR x, W.xf, ⟨H, Z, P, fun _ => none, W.ca⟩, fun cls dd _ H => E cls dd H⟩) (N := d.names) lN rfl rfl ha he h⟩
/-- one such def more -/
theorem stepL {d : Def} {st : Stmt} {c : Cf} {k : Nat} {f : Addr} {fd : FuncData} {x : String} {C T : Addr} (hrc : d.rc = 0) (hW : WlOk W) (k1 : 1 ≤ k) (hk : FnsOk W k c) (hg : GlsOk W c) (F : FunD W.K (sN d.x) (sN d.x) (defArgs st) (defBody st) (defScope st) [] [] f fd) (hc : d.chkL x W.xs W.xf st = true)
    (g : W.mg (sN d.x) = some (.ref f)) (b : Binds W.K fd d.ps []) (hcd : fd.code = .ref C) (TB : LamX.TabB W.base W.mg C T) (hca : W.ca ("<lambda> " ++ x) = some T) (hx : sN d.x ++ ".<locals>." ++ "<lambda>" = Str.ofString x) (one : ∀ y T', W.ca ("<lambda> " ++ y) = some T' → y ≠ x → T' ≠ T) (hG : c.G ("<lambda> " ++ x) = none) :
    FnsOk W (k + 2 * d.cost) (d.add c) ∧ GlsOk W (d.add c) := by
  refine ⟨?_, hg⟩
  unfold Def.add Def.F Def.cost
  rw [hrc]
  exact hk.put (by omega) g F.kp b (def_okL hW k1 hk hg F hc hcd TB hca hx one hG)
/-! ### the table among what is known by name -/
def caL (x : String) (T : Addr) (ca : String → Option Addr) : String → Option Addr := fun s => if s = "<lambda> " ++ x then some T else ca s
theorem clsOf_caL {x : String} {T : Addr} {ca : String → Option Addr} : clsOf (caL x T ca) = clsOf ca := by
  funext s
  unfold clsOf
  split
  · rfl
  · rename_i h
    unfold caL
    rw [if_neg (fun e => h (by subst e; rw [String.toList_append]; rfl))]
theorem caL_at {x : String} {T : Addr} {ca : String → Option Addr} : caL x T ca ("<lambda> " ++ x) = some T := if_pos rfl
theorem caL_one {x : String} {T : Addr} {ca : String → Option Addr} (h : ∀ y, ca ("<lambda> " ++ y) = none) : ∀ y T', caL x T ca ("<lambda> " ++ y) = some T' → y ≠ x → T' ≠ T := fun y T' e n => by
  unfold caL at e
  rw [if_neg (fun q => n (by
    have z := congrArg String.toList q
    rw [String.toList_append, String.toList_append] at z
    exact String.toList_inj.mp (List.append_cancel_left z))), h] at e
  cases e
/-- the law's promise, a table empty at its beginning -/
theorem law_spT {K : PySem.W.Frag} {x : String} {T : Addr} {ca : String → Option Addr} {xf : String → List String} {F : Fn} {n : Nat} (hn : n ≤ 1000) (hio : F.io = [false]) (hca : ∀ y, ca ("<lambda> " ++ y) = none) (h : ∀ ns : List Int, ns.length ≤ n → F.run [.dict [(.none, .list (ns.map PyData.int))]] = .ok (.v (.bool true)) []) :
    ∀ (H : Hp) (a : Addr) (ns : List Int), ns.length ≤ n → H T = some (.tbl #[]) → SqL K H a (ns.map V.int) → spOf K (caL x T ca) xf F [.ref a] H (fun v _ => v = .bl true) E0 := by
  intro H a ns hl hT hS
  refine ⟨hideT H, [.dict [(.none, .list (ns.map PyData.int))]], [], hideT_sub, hideT_no, (show TbOk (caL x T ca) H from ?_), ?_, ?_⟩
  · intro y P e
    by_cases hy : y = x
    · subst hy
      rw [caL_at] at e
      cases e
      exact LamX.TabS.nil hT
    · unfold caL at e
      rw [if_neg (fun q => hy (by
        have z := congrArg String.toList q
        rw [String.toList_append, String.toList_append] at z
        exact String.toList_inj.mp (List.append_cancel_left z))), hca] at e
      cases e
  · rw [hio]
    exact .sh (.scr (hideT_seq hS) (by rw [List.length_map]; exact Nat.le_of_lt (small1000 (by omega))) (Rps.ofInts ns)) (.nil _)
  · rw [h ns hl]
    intro x H' Z' _ _ nw
    cases nw
    rfl
end Bide
namespace Bide
open PySem L2 He
theorem code_of {K : PySem.W.Frag} {x q : Str} {params : Arguments} {body : List Stmt} {scope : Scope} {p : Str × Option Str} {fd : FuncData} (F : FunD K x q params body scope [] [] (fAd K p) fd) : fd.code = .ref (codeOf K p) := by
  obtain ⟨oc, od, dV, kV, doc, pm, an, cdv, ct, osl, rfl, lk, hcd, _, _⟩ := F.ex
  obtain ⟨c, e⟩ := codeIn_ref hcd
  subst e
  rw [codeOf_eq lk rfl]
end Bide

set_option autoImplicit false
set_option maxRecDepth 100000
/-! The core texts of defs that many laws name (printed by gen.py). -/
namespace Bide
open PySem
def D_law_stream : Def := ⟨"_law_stream", ["_law_script"], 1, [false], 0,
  (.cons (.ret (.lst (.cons (.blt .list (.cons (.var 0) .nil)) (.cons (.int 0) (.cons (.int 0) .nil)))))
  .nil)⟩
def D_law_next : Def := ⟨"_law_next", ["_law_stream_here", "_law_many", "_law_digit", "_law_k", "_law_cell"], 2, [true, false], 0,
  (.cons (.ife (.val (.cmp .eq (.idx (.var 0) (.int 1)) (.int 0))) (.cons (.asg 3 (.idx (.var 0) (.int 2)))
    (.cons (.asg 4 (.bin .add (.int 7) (.var 3)))
    (.cons (.ife (.val (.cmp .lt (.var 3) (.blt .len (.cons (.idx (.var 0) (.int 0)) .nil)))) (.cons (.asg 4 (.blt .abs (.cons (.idx (.idx (.var 0) (.int 0)) (.var 3)) .nil)))
      .nil) .nil)
    (.cons (.ife (.val (.cmp .lt (.var 4) (.bin .pow (.int 10) (.int 18)))) (.cons (.asg 4 (.bin .mod (.blt .int (.cons (.bin .add (.bin .add (.bin .mul (.var 4) (.int 48271)) (.bin .mul (.var 3) (.int 69621))) (.int 11)) .nil)) (.int 2147483647)))
      (.cons (.asg 4 (.bin .add (.bin .mul (.bin .mod (.blt .int (.cons (.bin .add (.bin .mul (.var 4) (.int 16807)) (.int 13)) .nil)) (.int 2147483647)) (.int 65537)) (.var 4)))
      .nil)) .nil)
    (.cons (.sti 0 (.int 1) (.var 4))
    (.cons (.sti 0 (.int 2) (.bin .add (.var 3) (.int 1)))
    .nil)))))) .nil)
  (.cons (.asg 2 (.bin .mod (.blt .int (.cons (.idx (.var 0) (.int 1)) .nil)) (.var 1)))
  (.cons (.sti 0 (.int 1) (.bin .fdiv (.idx (.var 0) (.int 1)) (.var 1)))
  (.cons (.ret (.var 2))
  .nil))))⟩
def D_law_is_integer : Def := ⟨"_law_is_integer", ["_law_actual"], 1, [false], 0,
  (.cons (.ret (.and (.isi (.var 0) .int) (.not (.isi (.var 0) .bool))))
  .nil)⟩
end Bide

set_option autoImplicit false
set_option maxRecDepth 100000
/-! The core texts of defs that many laws name (printed by gen.py). -/
namespace Bide
open PySem
end Bide

set_option autoImplicit false
set_option maxRecDepth 100000
/-! The core texts of defs that many laws name (printed by gen.py). -/
namespace Bide
open PySem
end Bide

set_option autoImplicit false
set_option maxRecDepth 100000
/-! The core texts of defs that many laws name (printed by gen.py). -/
namespace Bide
open PySem
def D_is_integer : Def := ⟨"is_integer", ["value"], 1, [false], 0,
  (.cons (.ret (.and (.isi (.var 0) .int) (.not (.isi (.var 0) .bool))))
  .nil)⟩
def D_do_commute : Def := ⟨"do_commute", ["one", "other", "first", "second"], 2, [false, false], 0,
  (.cons (.ife (.val (.cmp .eq (.idx (.var 0) (.int 0)) (.idx (.var 1) (.int 0)))) (.cons (.ret (.bl true))
    .nil) .nil)
  (.cons (.unp [2, 3] (.ife (.val (.cmp .eq (.idx (.var 0) (.int 0)) (.str "raise"))) (.tup (.cons (.var 0) (.cons (.var 1) .nil))) (.tup (.cons (.var 1) (.cons (.var 0) .nil)))))
  (.cons (.ret (.and (.cmp .eq (.idx (.var 2) (.int 1)) (.idx (.var 3) (.int 1))) (.cmp .le (.idx (.var 2) (.int 2)) (.idx (.var 3) (.int 2)))))
  .nil)))⟩
def D_law_news : Def := ⟨"_law_news", ["_law_stream_here", "_law_events", "_law_most", "_law_row", "_law_k", "_law_news_here", "_law_pick"], 3, [true, false, false], 0,
  (.cons (.asg 3 (.lst .nil))
  (.cons (.forr [4] false (.rng (.call "_law_next" (.cons (.var 0) (.cons (.bin .add (.var 2) (.int 1)) .nil)))) (.cons (.asg 5 (.tup (.cons (.call "_law_next" (.cons (.var 0) (.cons (.var 1) .nil))) (.cons (.bin .sub (.call "_law_next" (.cons (.var 0) (.cons (.int 9) .nil))) (.int 4)) .nil))))
    (.cons (.asg 6 (.call "_law_next" (.cons (.var 0) (.cons (.int 6) .nil))))
    (.cons (.ife (.and (.val (.cmp .eq (.var 6) (.int 0))) (.val (.var 3))) (.cons (.asg 5 (.idx (.var 3) (.call "_law_next" (.cons (.var 0) (.cons (.blt .len (.cons (.var 3) .nil)) .nil)))))
      .nil) .nil)
    (.cons (.ife (.and (.val (.cmp .eq (.var 6) (.int 1))) (.val (.var 3))) (.cons (.asg 5 (.tup (.cons (.idx (.idx (.var 3) (.neg (.int 1))) (.int 0)) (.cons (.blt .max2 (.cons (.neg (.int 500)) (.cons (.blt .min2 (.cons (.int 500) (.cons (.bin .sub (.bin .add (.idx (.idx (.var 3) (.neg (.int 1))) (.int 1)) (.call "_law_next" (.cons (.var 0) (.cons (.int 3) .nil)))) (.int 1)) .nil))) .nil))) .nil))))
      .nil) .nil)
    (.cons (.ife (.val (.cmp .eq (.var 6) (.int 2))) (.cons (.asg 5 (.tup (.cons (.idx (.var 5) (.int 0)) (.cons (.idx (.lst (.cons (.neg (.int 500)) (.cons (.int 500) (.cons (.int 499) .nil)))) (.call "_law_next" (.cons (.var 0) (.cons (.int 3) .nil)))) .nil))))
      .nil) .nil)
    (.cons (.xpr (.mth1 .append 3 (.var 5)))
    .nil)))))))
  (.cons (.ret (.blt .tuple (.cons (.var 3) .nil)))
  .nil)))⟩
def D_law_steps : Def := ⟨"_law_steps", ["_law_row", "_law_found", "_law_event", "_law_time"], 1, [false], 0,
  (.cons (.asg 1 (.lst .nil))
  (.cons (.forr [2, 3] true (.seq (.var 0)) (.cons (.asg 1 (.bin .add (.var 1) (.lst (.cons (.tup (.cons (.str "raise") (.cons (.var 2) (.cons (.var 3) .nil)))) (.cons (.tup (.cons (.str "lower") (.cons (.var 2) (.cons (.var 3) .nil)))) .nil)))))
    .nil))
  (.cons (.ret (.blt .tuple (.cons (.var 1) .nil)))
  .nil)))⟩
def D_law_commute : Def := ⟨"_law_commute", ["_law_one", "_law_other"], 2, [false, false], 12,
  (.cons (.ife (.val (.cmp .eq (.idx (.var 0) (.int 0)) (.idx (.var 1) (.int 0)))) (.cons (.ret (.bl true))
    .nil) .nil)
  (.cons (.ife (.val (.cmp .eq (.idx (.var 0) (.int 0)) (.str "lower"))) (.cons (.ret (.call "_law_commute" (.cons (.var 1) (.cons (.var 0) .nil))))
    .nil) .nil)
  (.cons (.ret (.and (.cmp .eq (.idx (.var 0) (.int 1)) (.idx (.var 1) (.int 1))) (.cmp .le (.idx (.var 0) (.int 2)) (.idx (.var 1) (.int 2)))))
  .nil)))⟩
def D_is_event_time_s : Def := ⟨"is_event_time", ["event", "time"], 2, [false, false], 0,
  (.cons (.ife (.or (.not (.val (.call "is_integer" (.cons (.var 0) .nil)))) (.not (.val (.chn .le .le (.int 0) (.var 0) (.glo "MOST_EVENT"))))) (.cons (.ret (.bl false))
    .nil) .nil)
  (.cons (.ret (.and (.call "is_integer" (.cons (.var 1) .nil)) (.chn .le .le (.neg (.glo "MOST_TIME")) (.var 1) (.glo "MOST_TIME"))))
  .nil))⟩
def D_is_free_row : Def := ⟨"is_free_row", ["value", "one"], 1, [false], 0,
  (.cons (.ife (.or (.not (.val (.isi (.var 0) .tuple))) (.val (.cmp .gt (.blt .len (.cons (.var 0) .nil)) (.glo "MOST_NEWS")))) (.cons (.ret (.bl false))
    .nil) .nil)
  (.cons (.ret (.blt .all (.cons (.lc [1] [1] false (.seq (.var 0)) .no (.and (.isi (.var 1) .tuple) (.and (.cmp .eq (.blt .len (.cons (.var 1) .nil)) (.int 2)) (.call "is_event_time" (.cons (.idx (.var 1) (.int 0)) (.cons (.idx (.var 1) (.int 1)) .nil)))))) .nil)))
  .nil))⟩
def D_is_step : Def := ⟨"is_step", ["value"], 1, [false], 0,
  (.cons (.ife (.or (.not (.val (.isi (.var 0) .tuple))) (.or (.val (.cmp .ne (.blt .len (.cons (.var 0) .nil)) (.int 3))) (.not (.val (.isi (.idx (.var 0) (.int 0)) .str))))) (.cons (.ret (.bl false))
    .nil) .nil)
  (.cons (.ret (.and (.cmp .inn (.idx (.var 0) (.int 0)) (.tup (.cons (.str "raise") (.cons (.str "lower") .nil)))) (.call "is_event_time" (.cons (.idx (.var 0) (.int 1)) (.cons (.idx (.var 0) (.int 2)) .nil)))))
  .nil))⟩
def D_law_some_steps : Def := ⟨"_law_some_steps", ["_law_stream_here", "_law_events", "_law_most", "_law_found", "_law_k", "_law_word"], 3, [true, false, false], 0,
  (.cons (.asg 3 (.lst .nil))
  (.cons (.forr [4] false (.rng (.call "_law_next" (.cons (.var 0) (.cons (.bin .add (.var 2) (.int 1)) .nil)))) (.cons (.asg 5 (.idx (.lst (.cons (.str "raise") (.cons (.str "lower") .nil))) (.call "_law_next" (.cons (.var 0) (.cons (.int 2) .nil)))))
    (.cons (.xpr (.mth1 .append 3 (.tup (.cons (.var 5) (.cons (.call "_law_next" (.cons (.var 0) (.cons (.var 1) .nil))) (.cons (.bin .sub (.call "_law_next" (.cons (.var 0) (.cons (.int 7) .nil))) (.int 3)) .nil))))))
    .nil)))
  (.cons (.ret (.blt .tuple (.cons (.var 3) .nil)))
  .nil)))⟩
end Bide

set_option autoImplicit false
set_option maxRecDepth 100000
/-! The core texts of defs that many laws name (printed by gen.py). -/
namespace Bide
open PySem
end Bide

set_option autoImplicit false
set_option maxRecDepth 100000
/-! The core texts of defs that many laws name (printed by gen.py). -/
namespace Bide
open PySem
end Bide

set_option autoImplicit false
set_option maxRecDepth 100000
/-! The core texts of defs that many laws name (printed by gen.py). -/
namespace Bide
open PySem
end Bide

set_option autoImplicit false
set_option maxRecDepth 100000
/-! The core texts of defs that many laws name (printed by gen.py). -/
namespace Bide
open PySem
end Bide

set_option autoImplicit false
set_option maxRecDepth 100000
/-! The core texts of defs that many laws name (printed by gen.py). -/
namespace Bide
open PySem
end Bide

set_option autoImplicit false
set_option maxRecDepth 100000
/-! The core texts of defs that many laws name (printed by gen.py). -/
namespace Bide
open PySem
end Bide

set_option autoImplicit false
set_option maxRecDepth 100000
/-! The core texts of defs that many laws name (printed by gen.py). -/
namespace Bide
open PySem
end Bide

set_option autoImplicit false
set_option maxRecDepth 100000
/-! The core texts of defs that many laws name (printed by gen.py). -/
namespace Bide
open PySem
def D_are_steps : Def := ⟨"are_steps", ["value", "one"], 1, [false], 0,
  (.cons (.ret (.and (.isi (.var 0) .tuple) (.and (.cmp .le (.blt .len (.cons (.var 0) .nil)) (.glo "MOST_STEPS")) (.blt .all (.cons (.lc [1] [1] false (.seq (.var 0)) .no (.call "is_step" (.cons (.var 1) .nil))) .nil)))))
  .nil)⟩
def D_check_steps : Def := ⟨"check_steps", ["steps"], 1, [false], 0,
  (.cons (.ife (.not (.val (.call "are_steps" (.cons (.var 0) .nil)))) (.cons (.nev)
    .nil) .nil)
  .nil)⟩
end Bide

set_option autoImplicit false
set_option maxRecDepth 100000
/-! The core texts of defs that many laws name (printed by gen.py). -/
namespace Bide
open PySem
def D_is_stronger : Def := ⟨"is_stronger", ["one", "other"], 2, [false, false], 0,
  (.cons (.ret (.ife (.val (.cmp .eq (.idx (.var 0) (.int 0)) (.str "raise"))) (.cmp .gt (.idx (.var 0) (.int 2)) (.idx (.var 1) (.int 2))) (.cmp .lt (.idx (.var 0) (.int 2)) (.idx (.var 1) (.int 2)))))
  .nil)⟩
def D_makes_idle : Def := ⟨"makes_idle", ["steps", "index", "by", "step", "other", "between"], 3, [false, false, false], 0,
  (.cons (.unp [3, 4] (.tup (.cons (.idx (.var 0) (.var 1)) (.cons (.idx (.var 0) (.var 2)) .nil))))
  (.cons (.ife (.or (.val (.cmp .eq (.var 1) (.var 2))) (.val (.cmp .ne (.slc (.var 3) .no (.so (.int 2))) (.slc (.var 4) .no (.so (.int 2)))))) (.cons (.ret (.bl false))
    .nil) .nil)
  (.cons (.ife (.val (.cmp .gt (.var 2) (.var 1))) (.cons (.ret (.not (.call "is_stronger" (.cons (.var 3) (.cons (.var 4) .nil)))))
    .nil) .nil)
  (.cons (.ret (.and (.call "is_stronger" (.cons (.var 4) (.cons (.var 3) .nil))) (.blt .all (.cons (.lc [5] [5] false (.seq (.slc (.var 0) (.so (.bin .add (.var 2) (.int 1))) (.so (.var 1)))) .no (.call "do_commute" (.cons (.var 3) (.cons (.var 5) .nil)))) .nil))))
  .nil))))⟩
def D_why_idle : Def := ⟨"why_idle", ["steps", "index", "by"], 2, [false, false], 0,
  (.cons (.forr [2] false (.rng (.blt .len (.cons (.var 0) .nil))) (.cons (.ife (.val (.call "makes_idle" (.cons (.var 0) (.cons (.var 1) (.cons (.var 2) .nil))))) (.cons (.ret (.var 2))
      .nil) .nil)
    .nil))
  (.cons (.ret .non)
  .nil))⟩
def D_idle_steps : Def := ⟨"idle_steps", ["steps", "index"], 1, [false], 0,
  (.cons (.xpr (.call "check_steps" (.cons (.var 0) .nil)))
  (.cons (.ret (.blt .tuple (.cons (.lc [1] [1] false (.rng (.blt .len (.cons (.var 0) .nil))) (.so (.val (.cmp .notN (.call "why_idle" (.cons (.var 0) (.cons (.var 1) .nil))) .non))) (.var 1)) .nil)))
  .nil))⟩
def D_law_idle_by : Def := ⟨"_law_idle_by", ["_law_steps_here", "_law_index", "_law_by", "_law_beyond", "_law_kind", "_law_event", "_law_time", "_law_k"], 3, [false, false, false], 0,
  (.cons (.unp [4, 5, 6] (.idx (.var 0) (.var 1)))
  (.cons (.ife (.or (.val (.cmp .eq (.var 1) (.var 2))) (.or (.val (.cmp .ne (.idx (.idx (.var 0) (.var 2)) (.int 0)) (.var 4))) (.val (.cmp .ne (.idx (.idx (.var 0) (.var 2)) (.int 1)) (.var 5))))) (.cons (.ret (.bl false))
    .nil) .nil)
  (.cons (.asg 3 (.bin .sub (.idx (.idx (.var 0) (.var 2)) (.int 2)) (.var 6)))
  (.cons (.ife (.val (.cmp .eq (.var 4) (.str "lower"))) (.cons (.asg 3 (.bin .sub (.int 0) (.var 3)))
    .nil) .nil)
  (.cons (.ife (.val (.cmp .gt (.var 2) (.var 1))) (.cons (.ret (.cmp .ge (.var 3) (.int 0)))
    .nil) .nil)
  (.cons (.ret (.and (.cmp .gt (.var 3) (.int 0)) (.blt .all (.cons (.lc [7] [7] false (.rng2 (.bin .add (.var 2) (.int 1)) (.var 1)) .no (.call "_law_commute" (.cons (.idx (.var 0) (.var 1)) (.cons (.idx (.var 0) (.var 7)) .nil)))) .nil))))
  .nil))))))⟩
end Bide

set_option autoImplicit false
set_option maxRecDepth 100000
/-! The core texts of defs that many laws name (printed by gen.py). -/
namespace Bide
open PySem
end Bide

set_option autoImplicit false
set_option maxRecDepth 100000
/-! The core texts of defs that many laws name (printed by gen.py). -/
namespace Bide
open PySem
def D_first_idle : Def := ⟨"first_idle", ["steps", "index", "by"], 1, [false], 0,
  (.cons (.forr [1] false (.rng (.blt .len (.cons (.var 0) .nil))) (.cons (.asg 2 (.call "why_idle" (.cons (.var 0) (.cons (.var 1) .nil))))
    (.cons (.ife (.val (.cmp .notN (.var 2) .non)) (.cons (.ret (.tup (.cons (.var 1) (.cons (.var 2) .nil))))
      .nil) .nil)
    .nil)))
  (.cons (.ret .non)
  .nil))⟩
def D_reduction_of : Def := ⟨"reduction_of", ["steps", "left", "found", "pair", "at"], 1, [false], 0,
  (.cons (.asg 1 (.lrg (.blt .len (.cons (.var 0) .nil))))
  (.cons (.asg 2 (.lst .nil))
  (.cons (.whl 1000000 (.val (.bl true)) (.cons (.asg 3 (.call "first_idle" (.cons (.lco [4] [4] false 1 .no (.idx (.var 0) (.var 4))) .nil)))
    (.cons (.ife (.val (.cmp .isN (.var 3) .non)) (.cons (.ret (.tup (.cons (.blt .tuple (.cons (.var 2) .nil)) (.cons (.var 1) .nil))))
      .nil) .nil)
    (.cons (.xpr (.mth1 .append 2 (.tup (.cons (.idx (.var 1) (.idx (.var 3) (.int 0))) (.cons (.idx (.var 1) (.idx (.var 3) (.int 1))) .nil)))))
    (.cons (.xpr (.mth1 .pop1 1 (.idx (.var 3) (.int 0))))
    .nil)))))
  .nil)))⟩
def D_remaining_of : Def := ⟨"remaining_of", ["steps", "at"], 1, [false], 0,
  (.cons (.ret (.blt .tuple (.cons (.lc [1] [1] false (.seq (.idx (.call "reduction_of" (.cons (.var 0) .nil)) (.int 1))) .no (.idx (.var 0) (.var 1))) .nil)))
  .nil)⟩
def D_remaining : Def := ⟨"remaining", ["steps"], 1, [false], 0,
  (.cons (.xpr (.call "check_steps" (.cons (.var 0) .nil)))
  (.cons (.ret (.call "remaining_of" (.cons (.var 0) .nil)))
  .nil))⟩
def D_reduction : Def := ⟨"reduction", ["steps"], 1, [false], 0,
  (.cons (.xpr (.call "check_steps" (.cons (.var 0) .nil)))
  (.cons (.ret (.idx (.call "reduction_of" (.cons (.var 0) .nil)) (.int 0)))
  .nil))⟩
def D_law_told_reduction : Def := ⟨"_law_told_reduction", ["_law_steps_here", "_law_left", "_law_found", "_law_turn", "_law_here", "_law_pairs", "_law_k", "_law_at", "_law_by"], 1, [false], 0,
  (.cons (.asg 1 (.lrg (.blt .len (.cons (.var 0) .nil))))
  (.cons (.asg 2 (.lst .nil))
  (.cons (.forr [3] false (.rng (.blt .len (.cons (.var 0) .nil))) (.cons (.asg 4 (.lco [7] [7] false 1 .no (.idx (.var 0) (.var 7))))
    (.cons (.asg 5 (.lst .nil))
    (.cons (.forr [6] false (.rng (.blt .len (.cons (.var 4) .nil))) (.cons (.asg 5 (.bin .add (.var 5) (.lc [8] [8] false (.rng (.blt .len (.cons (.var 4) .nil))) (.so (.val (.call "_law_idle_by" (.cons (.var 4) (.cons (.var 6) (.cons (.var 8) .nil)))))) (.tup (.cons (.var 6) (.cons (.var 8) .nil))))))
      .nil))
    (.cons (.ife (.val (.var 5)) (.cons (.unp [6, 8] (.idx (.var 5) (.int 0)))
      (.cons (.xpr (.mth1 .append 2 (.tup (.cons (.idx (.var 1) (.var 6)) (.cons (.idx (.var 1) (.var 8)) .nil)))))
      (.cons (.xpr (.mth1 .pop1 1 (.var 6)))
      .nil))) .nil)
    .nil)))))
  (.cons (.ret (.lst (.cons (.blt .tuple (.cons (.var 2) .nil)) (.cons (.var 1) .nil))))
  .nil))))⟩
def D_law_remaining : Def := ⟨"_law_remaining", ["_law_steps_here", "_law_at"], 1, [false], 0,
  (.cons (.ret (.blt .tuple (.cons (.lc [1] [1] false (.seq (.idx (.call "_law_told_reduction" (.cons (.var 0) .nil)) (.int 1))) .no (.idx (.var 0) (.var 1))) .nil)))
  .nil)⟩
end Bide

set_option autoImplicit false
set_option maxRecDepth 100000
/-! The core texts of defs that many laws name (printed by gen.py). -/
namespace Bide
open PySem
end Bide

set_option autoImplicit false
set_option maxRecDepth 100000
/-! The core texts of defs that many laws name (printed by gen.py). -/
namespace Bide
open PySem
end Bide

set_option autoImplicit false
set_option maxRecDepth 100000
/-! The core texts of defs that many laws name (printed by gen.py). -/
namespace Bide
open PySem
end Bide

set_option autoImplicit false
set_option maxRecDepth 100000
/-! The core texts of defs that many laws name (printed by gen.py). -/
namespace Bide
open PySem
end Bide

set_option autoImplicit false
set_option maxRecDepth 100000
/-! The core texts of defs that many laws name (printed by gen.py). -/
namespace Bide
open PySem
end Bide

set_option autoImplicit false
set_option maxRecDepth 100000
/-! The core texts of defs that many laws name (printed by gen.py). -/
namespace Bide
open PySem
end Bide

set_option autoImplicit false
set_option maxRecDepth 100000
/-! The core texts of defs that many laws name (printed by gen.py). -/
namespace Bide
open PySem
end Bide

set_option autoImplicit false
set_option maxRecDepth 100000
/-! The core texts of defs that many laws name (printed by gen.py). -/
namespace Bide
open PySem
def D_layers_in : Def := ⟨"layers_in", ["steps", "levels", "found", "level", "at", "step", "ahead", "layer", "k", "own"], 1, [false], 0,
  (.cons (.asg 1 (.lst .nil))
  (.cons (.forr [4, 5] true (.enum (.var 0)) (.cons (.asg 6 (.lc [8] [8] false (.rng (.var 4)) (.so (.not (.val (.call "do_commute" (.cons (.idx (.var 0) (.var 8)) (.cons (.var 5) .nil)))))) (.idx (.var 1) (.var 8))))
    (.cons (.xpr (.mth1 .append 1 (.bin .add (.blt .max1 (.cons (.bin .add (.lst (.cons (.neg (.int 1)) .nil)) (.var 6)) .nil)) (.int 1))))
    .nil)))
  (.cons (.asg 2 (.lst .nil))
  (.cons (.forr [3] false (.rng (.bin .add (.blt .max1 (.cons (.bin .add (.lst (.cons (.neg (.int 1)) .nil)) (.var 1)) .nil)) (.int 1))) (.cons (.asg 7 (.lc [5, 9] [5, 9] true (.zip (.var 0) (.var 1)) (.so (.val (.cmp .eq (.var 9) (.var 3)))) (.var 5)))
    (.cons (.xpr (.mth1 .append 2 (.blt .tuple (.cons (.srtk "layers_in.<locals>.<lambda>" (.var 7)) .nil))))
    .nil)))
  (.cons (.ret (.blt .tuple (.cons (.var 2) .nil)))
  .nil)))))⟩
def D_layers : Def := ⟨"layers", ["steps"], 1, [false], 0,
  (.cons (.xpr (.call "check_steps" (.cons (.var 0) .nil)))
  (.cons (.ret (.call "layers_in" (.cons (.var 0) .nil)))
  .nil))⟩
def D_law_layers : Def := ⟨"_law_layers", ["_law_steps_here", "_law_levels", "_law_at", "_law_found", "_law_level", "_law_ahead", "_law_here", "_law_rows", "_law_k", "_law_step", "_law_kind", "_law_event", "_law_time"], 1, [false], 0,
  (.cons (.asg 1 (.lst .nil))
  (.cons (.forr [2] false (.rng (.blt .len (.cons (.var 0) .nil))) (.cons (.asg 5 (.lc [8] [8] false (.rng (.var 2)) (.so (.not (.val (.call "_law_commute" (.cons (.idx (.var 0) (.var 8)) (.cons (.idx (.var 0) (.var 2)) .nil)))))) (.idx (.var 1) (.var 8))))
    (.cons (.xpr (.mth1 .append 1 (.bin .add (.int 1) (.blt .max1 (.cons (.bin .add (.lst (.cons (.neg (.int 1)) .nil)) (.var 5)) .nil)))))
    .nil)))
  (.cons (.asg 3 (.lst .nil))
  (.cons (.forr [4] false (.rng (.bin .add (.int 1) (.blt .max1 (.cons (.bin .add (.lst (.cons (.neg (.int 1)) .nil)) (.var 1)) .nil)))) (.cons (.asg 6 (.lc [2] [2] false (.rng (.blt .len (.cons (.var 0) .nil))) (.so (.val (.cmp .eq (.idx (.var 1) (.var 2)) (.var 4)))) (.idx (.var 0) (.var 2))))
    (.cons (.asg 7 (.blt .sorted (.cons (.lc [9] [9] false (.seq (.var 6)) .no (.tup (.cons (.blt .int (.cons (.cmp .eq (.idx (.var 9) (.int 0)) (.str "lower")) .nil)) (.cons (.idx (.var 9) (.int 1)) (.cons (.idx (.var 9) (.int 2)) .nil))))) .nil)))
    (.cons (.xpr (.mth1 .append 3 (.blt .tuple (.cons (.lc [10, 11, 12] [10, 11, 12] true (.seq (.var 7)) .no (.tup (.cons (.idx (.lst (.cons (.str "raise") (.cons (.str "lower") .nil))) (.var 10)) (.cons (.var 11) (.cons (.var 12) .nil))))) .nil))))
    .nil))))
  (.cons (.ret (.blt .tuple (.cons (.var 3) .nil)))
  .nil)))))⟩
end Bide

set_option autoImplicit false
set_option maxRecDepth 100000
/-! The core texts of defs that many laws name (printed by gen.py). -/
namespace Bide
open PySem
end Bide

set_option autoImplicit false
set_option Elab.async false
set_option maxRecDepth 100000
set_option linter.all false
set_option maxHeartbeats 0
namespace Bide
open PySem
def D_law_names : Def := ⟨"_law_names", ["_law_told", "_law_number", "_law_sign", "_law_found", "_law_layer", "_law_rows", "_law_word", "_law_event", "_law_time", "_law_turned"], 3, [false, false, false], 0,
  (.cons (.asg 3 (.lst .nil))
  (.cons (.forr [4] false (.seq (.var 0)) (.cons (.asg 5 (.lst .nil))
    (.cons (.forr [6, 7, 8] true (.seq (.var 4)) (.cons (.asg 9 (.var 6))
      (.cons (.ife (.val (.cmp .lt (.var 2) (.int 0))) (.cons (.asg 9 (.idx (.lst (.cons (.str "raise") (.cons (.str "lower") .nil))) (.blt .int (.cons (.cmp .eq (.var 6) (.str "raise")) .nil))))
        .nil) .nil)
      (.cons (.xpr (.mth1 .append 5 (.tup (.cons (.var 9) (.cons (.var 7) (.cons (.bin .add (.bin .mul (.var 2) (.var 8)) (.var 1)) .nil))))))
      .nil))))
    (.cons (.xpr (.mth1 .append 3 (.blt .sorted (.cons (.var 5) .nil))))
    .nil))))
  (.cons (.ret (.var 3))
  .nil)))⟩
def D_law : Def := ⟨"law", ["_law_script", "_law_stream_here", "_law_steps_here", "_law_number", "_law_later", "_law_mirrored", "_law_other", "_law_sign", "_law_shift", "_law_word", "_law_event", "_law_time", "_law_layer"], 1, [false], 0,
  (.cons (.asg 1 (.call "_law_stream" (.cons (.var 0) .nil)))
  (.cons (.asg 2 (.call "_law_some_steps" (.cons (.var 1) (.cons (.int 3) (.cons (.int 12) .nil)))))
  (.cons (.asg 3 (.bin .sub (.call "_law_next" (.cons (.var 1) (.cons (.int 900) .nil))) (.int 450)))
  (.cons (.asg 4 (.blt .tuple (.cons (.lc [9, 10, 11] [9, 10, 11] true (.seq (.var 2)) .no (.tup (.cons (.var 9) (.cons (.var 10) (.cons (.bin .add (.var 11) (.var 3)) .nil))))) .nil)))
  (.cons (.asg 5 (.blt .tuple (.cons (.lc [9, 10, 11] [9, 10, 11] true (.seq (.var 2)) .no (.tup (.cons (.idx (.lst (.cons (.str "raise") (.cons (.str "lower") .nil))) (.blt .int (.cons (.cmp .eq (.var 9) (.str "raise")) .nil))) (.cons (.var 10) (.cons (.bin .sub (.int 0) (.var 11)) .nil))))) .nil)))
  (.cons (.forr [6, 7, 8] true (.seq (.lst (.cons (.tup (.cons (.var 4) (.cons (.int 1) (.cons (.var 3) .nil)))) (.cons (.tup (.cons (.var 5) (.cons (.neg (.int 1)) (.cons (.int 0) .nil)))) .nil)))) (.cons (.ife (.or (.val (.cmp .ne (.call "idle_steps" (.cons (.var 6) .nil)) (.call "idle_steps" (.cons (.var 2) .nil)))) (.val (.cmp .ne (.call "reduction" (.cons (.var 6) .nil)) (.call "reduction" (.cons (.var 2) .nil))))) (.cons (.ret (.bl false))
      .nil) .nil)
    (.cons (.ife (.val (.cmp .ne (.call "_law_names" (.cons (.call "layers" (.cons (.var 2) .nil)) (.cons (.var 8) (.cons (.var 7) .nil)))) (.lc [12] [12] false (.seq (.call "layers" (.cons (.var 6) .nil))) .no (.blt .sorted (.cons (.var 12) .nil))))) (.cons (.ret (.bl false))
      .nil) .nil)
    (.cons (.ife (.val (.cmp .ne (.blt .len (.cons (.call "remaining" (.cons (.var 6) .nil)) .nil)) (.blt .len (.cons (.call "remaining" (.cons (.var 2) .nil)) .nil)))) (.cons (.ret (.bl false))
      .nil) .nil)
    .nil))))
  (.cons (.ret (.bl true))
  .nil)))))))⟩
def C0 : Cf := ⟨fun _ => none, fun x => match consts.lookup x with | some i => some (.int i) | none => (constsT.lookup x).map fun ds => .dict [(.none, .tuple ds)]⟩
def C1 : Cf := D_is_integer.add C0
def C2 : Cf := D_is_event_time_s.add C1
def C3 : Cf := D_is_step.add C2
def C4 : Cf := D_are_steps.add C3
def C5 : Cf := D_check_steps.add C4
def C6 : Cf := D_do_commute.add C5
def C7 : Cf := D_layers_in.add C6
def C8 : Cf := D_layers.add C7
def C9 : Cf := D_is_stronger.add C8
def C10 : Cf := D_makes_idle.add C9
def C11 : Cf := D_why_idle.add C10
def C12 : Cf := D_idle_steps.add C11
def C13 : Cf := D_first_idle.add C12
def C14 : Cf := D_reduction_of.add C13
def C15 : Cf := D_remaining_of.add C14
def C16 : Cf := D_remaining.add C15
def C17 : Cf := D_reduction.add C16
def C18 : Cf := D_law_stream.add C17
def C19 : Cf := D_law_next.add C18
def C20 : Cf := D_law_is_integer.add C19
def C21 : Cf := D_law_news.add C20
def C22 : Cf := D_law_steps.add C21
def C23 : Cf := D_law_some_steps.add C22
def C24 : Cf := D_law_commute.add C23
def C25 : Cf := D_law_idle_by.add C24
def C26 : Cf := D_law_told_reduction.add C25
def C27 : Cf := D_law_remaining.add C26
def C28 : Cf := D_law_layers.add C27
def C29 : Cf := D_law_names.add C28
end Bide

set_option autoImplicit false
set_option linter.all false
/-! The equations of evaluation, one by one (printed by geneq.py). -/
namespace Bide
open PySem
theorem zAa {c : Cf} {i : _} {ev : Ev} : evE c (.var i : E) ev = match ev[i]? with
    | some (.sh d) => .ok (.v d) ev
    | some (.ow (.ll xs)) => .ok (.v (OV.ll xs).val) (ev.set i (.sh (OV.ll xs).val))
    | some (.ow _) => .ok (.s i) ev
    | some (.io _) => .ok (.s i) ev
    | _ => .bad := by (simp only [evE]) <;> rfl
theorem zAb (c : Cf) (ev : Ev) : evE c (.non : E) ev = .ok (.v .none) ev := by (simp only [evE]) <;> rfl
theorem zAc {c : Cf} {b : _} {ev : Ev} : evE c (.bl b : E) ev = .ok (.v (.bool b)) ev := by (simp only [evE]) <;> rfl
theorem zAd {c : Cf} {i : _} {ev : Ev} : evE c (.int i : E) ev = .ok (.v (.int i)) ev := by (simp only [evE]) <;> rfl
theorem zAe {c : Cf} {s : _} {ev : Ev} : evE c (.str s : E) ev = .ok (.v (.str (Str.ofString s))) ev := by (simp only [evE]) <;> rfl
theorem zAf {c : Cf} {x : _} {ev : Ev} : evE c (.glo x : E) ev = match c.gl x with
    | some d => .ok (.v d) ev
    | none => .bad := by (simp only [evE]) <;> rfl
theorem zAg {c : Cf} {o a b : _} {ev : Ev} : evE c (.bin o a b : E) ev = (evE c a ev).bind fun r e1 => (evE c b e1).bind fun q e2 =>
    match rd e2 (stl r), rd e2 q with
    | some x, some y => R.of e2 (bop o x y)
    | _, _ => .bad := by (simp only [evE]) <;> rfl
theorem zAh {c : Cf} {a : _} {ev : Ev} : evE c (.neg a : E) ev = (evE c a ev).bind fun r e1 => match rd e1 r with
    | some (.int i) => .ok (.v (.int (-i))) e1
    | _ => .bad := by (simp only [evE]) <;> rfl
theorem zAi {c : Cf} {o a b : _} {ev : Ev} : evE c (.cmp o a b : E) ev = (evE c a ev).bind fun r e1 => (evE c b e1).bind fun q e2 =>
    match rd e2 (stl r), rd e2 q with
    | some x, some y => match cop o x y with
      | some k => .ok (.v (.bool k)) e2
      | none => .bad
    | _, _ => .bad := by (simp only [evE]) <;> rfl
theorem zAj {c : Cf} {o p a b d : _} {ev : Ev} : evE c (.chn o p a b d : E) ev = (evE c a ev).bind fun r e1 => (evE c b e1).bind fun q e2 =>
    match rd e2 (stl r), rd e2 (stl q) with
    | some x, some y => match cop o x y with
      | some true => (evE c d e2).bind fun u e3 => match rd e3 (stl q), rd e3 u with
        | some y2, some z => match cop p y2 z with
          | some k => .ok (.v (.bool k)) e3
          | none => .bad
        | _, _ => .bad
      | some false => .ok (.v (.bool false)) e2
      | none => .bad
    | _, _ => .bad := by (simp only [evE]) <;> rfl
theorem zAk {c : Cf} {a b : _} {ev : Ev} : evE c (.and a b : E) ev = (evE c a ev).bind fun r e1 => match rd e1 r with
    | some d => match truth d with
      | some true => evE c b e1
      | some false => .ok (stl r) e1
      | none => .bad
    | none => .bad := by (simp only [evE]) <;> rfl
theorem zAl {c : Cf} {a b : _} {ev : Ev} : evE c (.or a b : E) ev = (evE c a ev).bind fun r e1 => match rd e1 r with
    | some d => match truth d with
      | some false => evE c b e1
      | some true => .ok (stl r) e1
      | none => .bad
    | none => .bad := by (simp only [evE]) <;> rfl
theorem zAm {c : Cf} {a : _} {ev : Ev} : evE c (.not a : E) ev = (evE c a ev).bind fun r e1 => match rd e1 r with
    | some d => match truth d with
      | some k => .ok (.v (.bool (!k))) e1
      | none => .bad
    | none => .bad := by (simp only [evE]) <;> rfl
theorem zAn {c : Cf} {t a b : _} {ev : Ev} : evE c (.ife t a b : E) ev = (evT c t ev).bind fun k e1 => match k with
    | true => evE c a e1
    | false => evE c b e1 := by (simp only [evE]) <;> rfl
theorem zAo {c : Cf} {es : _} {ev : Ev} : evE c (.tup es : E) ev = (evEs c es ev).bind fun rs e1 => match escs e1 rs with
    | some (ds, e2) => if ds.length ≤ line then .ok (.v (.tuple ds)) e2 else .bad
    | none => .bad := by (simp only [evE]) <;> rfl
theorem zAp {c : Cf} {es : _} {ev : Ev} : evE c (.lst es : E) ev = (evEs c es ev).bind fun rs e1 => match escs e1 rs with
    | some (ds, e2) => if ds.length ≤ line then .ok (.f (.l ds)) e2 else .bad
    | none => .bad := by (simp only [evE]) <;> rfl
theorem zAq {c : Cf} {t : _} {ev : Ev} : evE c (.dnew t : E) ev = .ok (.f (.d t [])) ev := by (simp only [evE]) <;> rfl
theorem zAr {c : Cf} {a b : _} {ev : Ev} : evE c (.idx a b : E) ev = (evE c a ev).bind fun r e1 => (evE c b e1).bind fun q e2 =>
    match rd e2 (stl r), rd e2 q with
    | some x, some y => match idxD x y with
      | some d => .ok (.v d) e2
      | none => .bad
    | _, _ => .bad := by (simp only [evE]) <;> rfl
theorem zAs {c : Cf} {i a j : _} {ev : Ev} : evE c (.idx2 i a j : E) ev = match ownLL ev[i]? with
    | some _ => (evE c a ev).bind fun r e1 => match rd e1 r, ownLL e1[i]?, rd e1 (.s j) with
      | some (.int m), some xss, some (.int n) => match atD xss m with
        | some xs => match atD xs n with
          | some d => .ok (.v d) e1
          | none => .bad
        | none => .bad
      | _, _, _ => .bad
    | none => .bad := by (simp only [evE]) <;> rfl
theorem zAt {c : Cf} {a lo hi : _} {ev : Ev} : evE c (.slc a lo hi : E) ev = (evE c a ev).bind fun r e1 => (evO c lo e1).bind fun x e2 => (evO c hi e2).bind fun y e3 =>
    match rd e3 (stl r) with
    | some d => R.of e3 (slcD d x y)
    | none => .bad := by (simp only [evE]) <;> rfl
theorem zAu {c : Cf} {a b : _} {ev : Ev} : evE c (.dget a b : E) ev = (evE c a ev).bind fun r e1 => (evE c b e1).bind fun q e2 =>
    match rd e2 (stl r), rd e2 q with
    | some (.dict ((.bool t, .none) :: kvs)), some k => match (if keyOkT t k = true then getKV kvs k else none) with
      | some d => .ok (.v d) e2
      | none => .bad
    | _, _ => .bad := by (simp only [evE]) <;> rfl
theorem zAv {c : Cf} {f es : _} {ev : Ev} : evE c (.call f es : E) ev = match c.G f with
    | some F => (evEs c es ev).bind fun rs e1 => match lend e1 F.io rs with
      | some (ds, ls, e2) => match F.run ds with
        | .ok r outs => match giveBack e2 ls outs with
          | some e3 => .ok r e3
          | none => .bad
        | .ex x => if ls.isEmpty then .ex x e2 else .bad
        | .bad => .bad
      | none => .bad
    | none => .bad := by (simp only [evE]) <;> rfl
theorem zAw {c : Cf} {f es : _} {ev : Ev} : evE c (.blt f es : E) ev = (evEs c es ev).bind fun rs e1 => match rds e1 rs with
    | some ds => R.of e1 (blt f ds)
    | none => .bad := by (simp only [evE]) <;> rfl
theorem zAx {c : Cf} {a : _} {ev : Ev} : evE c (.lrg a : E) ev = (evE c a ev).bind fun r e1 => match rd e1 r with
    | some (.int n) => if -(2 ^ 62) ≤ n ∧ n ≤ line then .ok (.f (.l (rngD 0 n.toNat))) e1 else .bad
    | _ => .bad := by (simp only [evE]) <;> rfl
theorem zAy {c : Cf} {a b : _} {ev : Ev} : evE c (.lrg2 a b : E) ev = (evE c a ev).bind fun r e1 => (evE c b e1).bind fun q e2 => match rd e2 (stl r), rd e2 q with
    | some (.int m), some (.int n) => if -(2 ^ 62) ≤ m ∧ m < 2 ^ 62 ∧ -(2 ^ 62) ≤ n ∧ n < 2 ^ 62 ∧ n - m ≤ line then .ok (.f (.l (rngD m (n - m).toNat))) e2 else .bad
    | _, _ => .bad := by (simp only [evE]) <;> rfl
theorem zAz {c : Cf} {a : _} {ev : Ev} : evE c (.trg a : E) ev = (evE c a ev).bind fun r e1 => match rd e1 r with
    | some (.int n) => if -(2 ^ 62) ≤ n ∧ n ≤ line then .ok (.v (.tuple (rngD 0 n.toNat))) e1 else .bad
    | _ => .bad := by (simp only [evE]) <;> rfl
theorem zA0 {c : Cf} {a : _} {ev : Ev} : evE c (.rev a : E) ev = (evE c a ev).bind fun r e1 => match rd e1 r with
    | some d => R.of e1 (revD d)
    | none => .bad := by (simp only [evE]) <;> rfl
theorem zA1 {c : Cf} {a t : _} {ev : Ev} : evE c (.isi a t : E) ev = (evE c a ev).bind fun r e1 => match rd e1 r with
    | some d => match isTy t d with
      | some k => .ok (.v (.bool k)) e1
      | none => .bad
    | none => .bad := by (simp only [evE]) <;> rfl
theorem zA2 {c : Cf} {m i e : _} {ev : Ev} : evE c (.mth1 m i e : E) ev = match ownL ev[i]? with
    | some _ => (evE c e ev).bind fun r e1 => match esc e1 r with
      | some (d, e2) => match ownL e2[i]? with
        | some xs => match mth m xs d with
          | some (d, ys) => .ok (.v d) (putL e2 i ys)
          | none => .bad
        | none => .bad
      | none => .bad
    | none => .bad := by (simp only [evE]) <;> rfl
theorem zA3 {c : Cf} {i : _} {ev : Ev} : evE c (.pop0 i : E) ev = match ownL ev[i]? with
    | some xs => match xs.getLast? with
      | some d => .ok (.v d) (putL ev i xs.dropLast)
      | none => .bad
    | none => .bad := by (simp only [evE]) <;> rfl
theorem zA4 {c : Cf} {i a b : _} {ev : Ev} : evE c (.ins i a b : E) ev = match ownL ev[i]? with
    | some _ => (evE c a ev).bind fun q e1 => (evE c b e1).bind fun r e2 => match rd e2 (stl q) with
      | some (.int j) => match esc e2 r with
        | some (d, e3) => match ownL e3[i]? with
          | some xs => if 0 ≤ j ∧ j < 2 ^ 62 ∧ xs.length < line then .ok (.v .none) (putL e3 i (xs.take j.toNat ++ [d] ++ xs.drop j.toNat)) else .bad
          | none => .bad
        | none => .bad
      | _ => .bad
    | none => .bad := by (simp only [evE]) <;> rfl
theorem zA5 {c : Cf} {a b : _} {ev : Ev} : evE c (.ixof a b : E) ev = (evE c a ev).bind fun r e1 => match rd e1 r with
    | some (.list _) => (evE c b e1).bind fun q e2 => match rd e2 (stl r), rd e2 q with
      | some (.list ds), some y => match ixD ds y with
        | some j => .ok (.v (.int (j : Nat))) e2
        | none => .bad
      | _, _ => .bad
    | _ => .bad := by (simp only [evE]) <;> rfl
theorem zA6 {c : Cf} {k v : _} {ev : Ev} : evE c (.dlit k v : E) ev = (evE c k ev).bind fun q e1 => (evE c v e1).bind fun r e2 => match rd e2 (stl q), esc e2 r with
    | some x, some (y, e3) => if keyOk x = true then .ok (.f (.d false [(x, y)])) e3 else .bad
    | _, _ => .bad := by (simp only [evE]) <;> rfl
theorem zA7 {c : Cf} {a b : _} {ev : Ev} : evE c (.dg1 a b : E) ev = (evE c a ev).bind fun r e1 => match rd e1 r with
    | some (.dict ((.bool _, .none) :: _)) => (evE c b e1).bind fun q e2 => match rd e2 (stl r), rd e2 q with
      | some (.dict ((.bool t, .none) :: kvs)), some k => if keyOkT t k = true then .ok (.v ((getKV kvs k).getD .none)) e2 else .bad
      | _, _ => .bad
    | _ => .bad := by (simp only [evE]) <;> rfl
theorem zA8 {c : Cf} {a b d : _} {ev : Ev} : evE c (.dg2 a b d : E) ev = (evE c a ev).bind fun r e1 => match rd e1 r with
    | some (.dict ((.bool _, .none) :: _)) => (evE c b e1).bind fun q e2 => (evE c d e2).bind fun u e3 => match rd e3 (stl r), rd e3 (stl q), u with
      | some (.dict ((.bool t, .none) :: kvs)), some k, .v x => if keyOkT t k = true then .ok (.v ((getKV kvs k).getD x)) e3 else .bad
      | _, _, _ => .bad
    | _ => .bad := by (simp only [evE]) <;> rfl
theorem zA9 {c : Cf} {i : _} {ev : Ev} : evE c (.items i : E) ev = match ev[i]? with
    | some (.ow (.d false kvs)) => .ok (.f (.l (kvs.map fun kv => .tuple [kv.1, kv.2]))) ev
    | _ => .bad := by (simp only [evE]) <;> rfl
theorem zBa {c : Cf} {a : _} {ev : Ev} : evE c (.strI a : E) ev = (evE c a ev).bind fun r e1 => match rd e1 r with
    | some (.int i) => if i.natAbs.log2 < 1920 then .ok (.v (.str (Str.ofString (toString i)))) e1 else .bad
    | _ => .bad := by (simp only [evE]) <;> rfl
theorem zBb {c : Cf} {z0 a : _} {ev : Ev} : evE c (.srtk z0 a : E) ev = (evE c a ev).bind fun r e1 => match rd e1 r with
    | some (.list ds) => if ds.all isStp = true then .ok (.f (.l (ds.mergeSort (PySem.W.dataLe false keyL)))) e1 else .bad
    | _ => .bad := by (simp only [evE]) <;> rfl
theorem zBc {c : Cf} {e : _} {ev : Ev} : evT c (.val e : T) ev = (evE c e ev).bind fun r e1 => match rd e1 r with
    | some d => R.of e1 (truT d)
    | none => .bad := by (simp only [evT]) <;> rfl
theorem zBd {c : Cf} {a b : _} {ev : Ev} : evT c (.and a b : T) ev = (evT c a ev).bind fun k e1 => match k with
    | true => evT c b e1
    | false => .ok false e1 := by (simp only [evT]) <;> rfl
theorem zBe {c : Cf} {a b : _} {ev : Ev} : evT c (.or a b : T) ev = (evT c a ev).bind fun k e1 => match k with
    | true => .ok true e1
    | false => evT c b e1 := by (simp only [evT]) <;> rfl
theorem zBf {c : Cf} {a : _} {ev : Ev} : evT c (.not a : T) ev = (evT c a ev).bind fun k e1 => .ok (!k) e1 := by (simp only [evT]) <;> rfl
theorem zBg (c : Cf) (ev : Ev) : evEs c (.nil : Es) ev = .ok [] ev := by (simp only [evEs]) <;> rfl
theorem zBh {c : Cf} {e es : _} {ev : Ev} : evEs c (.cons e es : Es) ev = (evE c e ev).bind fun r e1 => (evEs c es e1).bind fun rs e2 => .ok (stl r :: rs) e2 := by (simp only [evEs]) <;> rfl
theorem zBi (c : Cf) (ev : Ev) : evO c (.no : O) ev = .ok none ev := by (simp only [evO]) <;> rfl
theorem zBj {c : Cf} {e : _} {ev : Ev} : evO c (.so e : O) ev = (evE c e ev).bind fun r e1 => match rd e1 r with
    | some (.int i) => .ok (some i) e1
    | _ => .bad := by (simp only [evO]) <;> rfl
theorem zBk (c : Cf) (ev : Ev) : evC c (.no : C) ev = .ok true ev := by (simp only [evC]) <;> rfl
theorem zBl {c : Cf} {t : _} {ev : Ev} : evC c (.so t : C) ev = evT c t ev := by (simp only [evC]) <;> rfl
theorem zBm {c : Cf} {e : _} {ev : Ev} : evIt c (.seq e : It) ev = (evE c e ev).bind fun r e1 => match esc e1 r with
    | some (d, e2) => R.of e2 (seqOf d)
    | none => .bad := by (simp only [evIt]) <;> rfl
theorem zBn {c : Cf} {a : _} {ev : Ev} : evIt c (.rng a : It) ev = (evE c a ev).bind fun r e1 => match rd e1 r with
    | some (.int n) => if -(2 ^ 62) ≤ n ∧ n ≤ line then .ok (rngD 0 n.toNat) e1 else .bad
    | _ => .bad := by (simp only [evIt]) <;> rfl
theorem zBo {c : Cf} {a b : _} {ev : Ev} : evIt c (.rng2 a b : It) ev = (evE c a ev).bind fun r e1 => (evE c b e1).bind fun q e2 => match rd e2 (stl r), rd e2 q with
    | some (.int m), some (.int n) => if -(2 ^ 62) ≤ m ∧ m < 2 ^ 62 ∧ -(2 ^ 62) ≤ n ∧ n < 2 ^ 62 ∧ n - m ≤ line then .ok (rngD m (n - m).toNat) e2 else .bad
    | _, _ => .bad := by (simp only [evIt]) <;> rfl
theorem zBp {c : Cf} {e : _} {ev : Ev} : evIt c (.enum e : It) ev = (evE c e ev).bind fun r e1 => match esc e1 r with
    | some (d, e2) => match d with
      | .list ds => .ok (enumD ds) e2
      | .tuple ds => .ok (enumD ds) e2
      | _ => .bad
    | none => .bad := by (simp only [evIt]) <;> rfl
theorem zBq {c : Cf} {a b : _} {ev : Ev} : evIt c (.zip a b : It) ev = (evE c a ev).bind fun r e1 => match esc e1 r with
    | some (d, e2) => (evE c b e2).bind fun q e3 => match esc e3 q with
      | some (d2, e4) => match d, d2 with
        | .list xs, .list ys => .ok (zipD xs ys) e4
        | .tuple xs, .tuple ys => .ok (zipD xs ys) e4
        | .list xs, .tuple ys => .ok (zipD xs ys) e4
        | .tuple xs, .list ys => .ok (zipD xs ys) e4
        | _, _ => .bad
      | none => .bad
    | none => .bad := by (simp only [evIt]) <;> rfl
theorem zBr {c : Cf} {i e : _} {ev : Ev} : evS c (.asg i e : S) ev = (evE c e ev).bind fun r e1 => match putR e1 i r with
    | some e2 => .ok .nx e2
    | none => .bad := by (simp only [evS]) <;> rfl
theorem zBs {c : Cf} {is e : _} {ev : Ev} : evS c (.unp is e : S) ev = (evE c e ev).bind fun r e1 => match esc e1 r with
    | some (.tuple ds, e2) => match setVs e2 is ds with
      | some e3 => .ok .nx e3
      | none => .bad
    | _ => .bad := by (simp only [evS]) <;> rfl
theorem zBt {c : Cf} {is e : _} {ev : Ev} : evS c (.unl is e : S) ev = (evE c e ev).bind fun r e1 => match esc e1 r with
    | some (.list ds, e2) => match setVs e2 is ds with
      | some e3 => .ok .nx e3
      | none => .bad
    | _ => .bad := by (simp only [evS]) <;> rfl
theorem zBu {c : Cf} {i a v : _} {ev : Ev} : evS c (.sti i a v : S) ev = (evE c v ev).bind fun r e1 => match esc e1 r with
    | some (d, e2) => match ownL e2[i]? with
      | some _ => (evE c a e2).bind fun q e3 => match rd e3 q, ownL e3[i]? with
        | some (.int j), some xs => match setAt xs j d with
          | some ys => .ok .nx (putL e3 i ys)
          | none => .bad
        | _, _ => .bad
      | none => .bad
    | none => .bad := by (simp only [evS]) <;> rfl
theorem zBv {c : Cf} {i a j v : _} {ev : Ev} : evS c (.st2 i a j v : S) ev = (evE c v ev).bind fun r e1 => match esc e1 r with
    | some (d, e2) => match ownLL e2[i]? with
      | some _ => (evE c a e2).bind fun q e3 => match rd e3 q, ownLL e3[i]?, rd e3 (.s j) with
        | some (.int m), some xss, some (.int n) => match atD xss m with
          | some xs => match setAt xs n d with
            | some ys => match setAt xss m ys with
              | some yss => .ok .nx (e3.set i (.ow (.ll yss)))
              | none => .bad
            | none => .bad
          | none => .bad
        | _, _, _ => .bad
      | none => .bad
    | none => .bad := by (simp only [evS]) <;> rfl
theorem zBw {c : Cf} {i k v : _} {ev : Ev} : evS c (.std i k v : S) ev = (evE c v ev).bind fun r e1 => match esc e1 r with
    | some (d, e2) => match e2[i]? with
      | some (.ow _) => (evE c k e2).bind fun q e3 => match esc e3 q with
        | some (x, e4) => match e4[i]? with
          | some (.ow (.d t kvs)) => if keyOkT t x = true ∧ kvs.length < line then .ok .nx (e4.set i (.ow (.d t (putKV kvs x d)))) else .bad
          | _ => .bad
        | none => .bad
      | _ => .bad
    | none => .bad := by (simp only [evS]) <;> rfl
theorem zBx {c : Cf} {e : _} {ev : Ev} : evS c (.xpr e : S) ev = (evE c e ev).bind fun _ e1 => .ok .nx e1 := by (simp only [evS]) <;> rfl
theorem zBy {c : Cf} {t a b : _} {ev : Ev} : evS c (.ife t a b : S) ev = (evT c t ev).bind fun k e1 => match k with
    | true => evSs c a e1
    | false => evSs c b e1 := by (simp only [evS]) <;> rfl
theorem zBz {c : Cf} {e : _} {ev : Ev} : evS c (.ret e : S) ev = (evE c e ev).bind fun r e1 => match retR e1 r with
    | some (q, e2) => .ok (.rt q) e2
    | none => .bad := by (simp only [evS]) <;> rfl
theorem zB0 (c : Cf) (ev : Ev) : evS c (.retN : S) ev = .ok (.rt (.v .none)) ev := by (simp only [evS]) <;> rfl
theorem zB1 {c : Cf} {x es : _} {ev : Ev} : evS c (.rse x es : S) ev = (evEs c es ev).bind fun rs e1 => match escs e1 rs with
    | some (ds, e2) => .ex ⟨x, ds⟩ e2
    | none => .bad := by (simp only [evS]) <;> rfl
theorem zB2 {c : Cf} {b x i h : _} {ev : Ev} : evS c (.trx b x i h : S) ev = match evSs c b ev with
    | .ex e ev1 => if e.c = x then (match ev1[i]?, evHx h e.fs with
      | some _, some r => .ok (.rt r) ev1
      | _, _ => .bad) else .ex e ev1
    | .ok f ev1 => .ok f ev1
    | .bad => .bad := by (simp only [evS]) <;> rfl
theorem zB3 {c : Cf} {b hs : _} {ev : Ev} : evS c (.trm b hs : S) ev = match evSs c b ev with
    | .ex e ev1 => match slotsB ev1 hs, evHds e hs with
      | true, some (some r) => .ok (.rt r) ev1
      | true, some none => .ex e ev1
      | _, _ => .bad
    | .ok f ev1 => .ok f ev1
    | .bad => .bad := by (simp only [evS]) <;> rfl
theorem zB4 {c : Cf} {is js e : _} {ev : Ev} : evS c (.unn is js e : S) ev = (evE c e ev).bind fun r e1 => match esc e1 r with
    | some (.tuple (.tuple xs :: ds), e2) => match setVs e2 is xs with
      | some e3 => match setVs e3 js ds with
        | some e4 => .ok .nx e4
        | none => .bad
      | none => .bad
    | _ => .bad := by (simp only [evS]) <;> rfl
theorem zB5 {c : Cf} {i a b v u : _} {ev : Ev} : evS c (.sw2 i a b v u : S) ev = (evE c (.tup (.cons v (.cons u .nil))) ev).bind fun r e1 => match esc e1 r with
    | some (.tuple [x, y], e2) => match ownL e2[i]? with
      | some _ => (evE c a e2).bind fun s e3 => match rd e3 s, ownL e3[i]? with
        | some (.int j), some xs => match setAt xs j x with
          | some ys => (evE c b (putL e3 i ys)).bind fun s2 e4 => match rd e4 s2, ownL e4[i]? with
            | some (.int k), some zs => match setAt zs k y with
              | some ws => .ok .nx (putL e4 i ws)
              | none => .bad
            | _, _ => .bad
          | none => .bad
        | _, _ => .bad
      | none => .bad
    | _ => .bad := by (simp only [evS]) <;> rfl
theorem zB6 (c : Cf) (ev : Ev) : evS c (.pass : S) ev = .ok .nx ev := by (simp only [evS]) <;> rfl
theorem zB7 (c : Cf) (ev : Ev) : evS c (.brk : S) ev = .ok .br ev := by (simp only [evS]) <;> rfl
theorem zB8 (c : Cf) (ev : Ev) : evS c (.cont : S) ev = .ok .ct ev := by (simp only [evS]) <;> rfl
theorem zB9 (c : Cf) (ev : Ev) : evS c (.nev : S) ev = .bad := by (simp only [evS]) <;> rfl
theorem zCa (c : Cf) (ev : Ev) : evSs c (.nil : Ss) ev = .ok .nx ev := by (simp only [evSs]) <;> rfl
theorem zCb {c : Cf} {a b : _} {ev : Ev} : evSs c (.cons a b : Ss) ev = (evS c a ev).bind fun f e1 => match f with
    | .nx => evSs c b e1
    | f => .ok f e1 := by (simp only [evSs]) <;> rfl
end Bide

set_option autoImplicit false
set_option linter.all false
/-! How loops and comprehensions evaluate. -/
namespace Bide
open PySem
def SV.free : SV → Prop
  | .no => True
  | .sh _ => True
  | _ => False
section
variable {α : Type} {a b c d e : α} {r : List α}
theorem zCz : atD (a :: r) 0 = some a := rfl
theorem zC0 : atD (a :: b :: r) 1 = some b := rfl
theorem zC1 : atD (a :: b :: c :: r) 2 = some c := rfl
theorem zC2 : atD (a :: b :: c :: d :: r) 3 = some d := rfl
theorem zC3 : atD (a :: b :: c :: d :: e :: r) 4 = some e := rfl
end
theorem zCx (ds : List D) (i : Int) : idxD (.list ds) (.int i) = atD ds i := rfl
theorem zCy (ds : List D) (i : Int) : idxD (.tuple ds) (.int i) = atD ds i := rfl
theorem zCv (ds : List D) : lenOf (.list ds) = some ds.length := rfl
theorem zCw (ds : List D) : lenOf (.tuple ds) = some ds.length := rfl
theorem truT_n : truT .none = some false := rfl
theorem truT_b (b : Bool) : truT (.bool b) = some b := rfl
theorem truT_i (i : Int) : truT (.int i) = some (i != 0) := rfl
theorem truT_l (ds : List D) : truT (.list ds) = some (!ds.isEmpty) := rfl
theorem truT_t (ds : List D) : truT (.tuple ds) = some (!ds.isEmpty) := rfl
theorem truT_s (x : Str) : truT (.str x) = truth (.str x) := rfl
theorem truT_d (kvs : List (D × D)) : truT (.dict ((.bool false, .none) :: kvs)) = some (!kvs.isEmpty) := rfl
theorem zCc : truth .none = some false := rfl
theorem zCd (b : Bool) : truth (.bool b) = some b := rfl
theorem zCe (i : Int) : truth (.int i) = some (i != 0) := rfl
theorem zCf (ds : List D) : truth (.list ds) = some (!ds.isEmpty) := rfl
theorem zCg (ds : List D) : truth (.tuple ds) = some (!ds.isEmpty) := rfl
theorem zCh (i j : Int) : cop .lt (.int i) (.int j) = some (decide (i < j)) := rfl
theorem zCi (i j : Int) : cop .le (.int i) (.int j) = some (decide (i ≤ j)) := rfl
theorem zCj (i j : Int) : cop .gt (.int i) (.int j) = some (decide (j < i)) := rfl
theorem zCk (i j : Int) : cop .ge (.int i) (.int j) = some (decide (j ≤ i)) := rfl
theorem zCl (d : D) : cop .isN d .none = some (isNone d) := rfl
theorem zCm (d : D) : cop .notN d .none = some (!isNone d) := rfl
theorem zCn (a b : Bool) : cop .isB (.bool a) (.bool b) = some (decide (a = b)) := rfl
theorem zCo (a b : Bool) : cop .notB (.bool a) (.bool b) = some (!decide (a = b)) := rfl
theorem zCr (d e : D) : cop .inn d e = dIn d e := rfl
theorem zCs (d e : D) : cop .notin d e = (dIn d e).map not := rfl
theorem sh_int (i : Int) : SeqAt.shaped (.int i) = true := rfl
theorem sh_bool (i : Bool) : SeqAt.shaped (.bool i) = true := rfl
theorem cop_eqD {d e : D} (h : SeqAt.shaped d = true) (h' : SeqAt.shaped e = true) : cop .eq d e = some (PyData.eqv d e) := by simp [cop,h,h']
theorem cop_neD {d e : D} (h : SeqAt.shaped d = true) (h' : SeqAt.shaped e = true) : cop .ne d e = some (!PyData.eqv d e) := by simp [cop,h,h']
theorem zCp (i j : Int) : cop .eq (.int i) (.int j) = some (decide (i = j)) := by rw [cop_eqD (sh_int i) (sh_int j)]; by_cases h : i = j <;> simp [PyData.eqv,h]
theorem zCq (i j : Int) : cop .ne (.int i) (.int j) = some (!decide (i = j)) := by rw [cop_neD (sh_int i) (sh_int j)]; by_cases h : i = j <;> simp [PyData.eqv,h]
theorem zCt (i j : Bool) : cop .eq (.bool i) (.bool j) = some (decide (i = j)) := by rw [cop_eqD (sh_bool i) (sh_bool j)]; by_cases h : i = j <;> simp [PyData.eqv,h]
theorem zCu (i j : Bool) : cop .ne (.bool i) (.bool j) = some (!decide (i = j)) := by rw [cop_neD (sh_bool i) (sh_bool j)]; by_cases h : i = j <;> simp [PyData.eqv,h]
/-! ### with a stream -/
inductive All2 {α β : Type} (P : α → β → Prop) : List α → List β → Prop
  | nil : All2 P [] []
  | cons {a : α} {b : β} {as : List α} {bs : List β} : P a b → All2 P as bs → All2 P (a :: as) (b :: bs)
theorem All2.length {α β : Type} {P : α → β → Prop} {as : List α} {bs : List β} (h : All2 P as bs) : as.length = bs.length := by
  induction h with
  | nil => rfl
  | cons _ _ ih => simp [ih]
theorem All2.right {α β : Type} {P : α → β → Prop} {Q : β → Prop} {as : List α} {bs : List β} (h : All2 P as bs) (hq : ∀ a b, P a b → Q b) : ∀ b ∈ bs, Q b := by
  induction h with
  | nil => intro b hb; cases hb
  | cons h _ ih =>
    intro b hb
    rcases List.mem_cons.mp hb with rfl | hb
    · exact hq _ _ h
    · exact ih b hb
/-! ### for -/
end Bide

set_option pp.maxSteps 400
set_option autoImplicit false
set_option linter.all false
set_option maxRecDepth 100000
set_option maxHeartbeats 4000000
/-! What the first defs compute: forms of nets and times; the stream. -/
namespace Bide
open PySem
/-- a context has a def of this promise -/
def Has (c : Cf) (x : String) (S : Fn → Prop) : Prop := ∃ F, c.G x = some F ∧ S F
/-! ### forms -/
def isDict : D → Bool
  | .dict _ => true
  | _ => false
def betw : D → Int → Int → Bool
  | .int v, lo, hi => decide (lo ≤ v) && decide (v ≤ hi)
  | _, _, _ => false
def sideB (d : D) : Bool := match d with
  | .none => true
  | d => betw d (-100) 100
def ruleB (d : D) (n : Int) : Bool := match d with
  | .tuple [a, b, lo, hi] => betw a 0 (n - 1) && betw b 0 (n - 1) && !PyData.eqv a b && sideB lo && sideB hi && (!isNone lo || !isNone hi)
  | _ => false
/-- no dicts among a tuple's parts -/
def flatT (d : D) : Prop := isDict d = false ∧ ∀ ds, d = .tuple ds → ∀ x ∈ ds, isDict x = false
def netB (d : D) : Bool := match d with
  | .tuple [n, .tuple rs] => betw n 1 6 && decide (rs.length ≤ 12) && (match n with
    | .int n => rs.all fun r => ruleB r n
    | _ => false)
  | _ => false
theorem bls_map {α : Type} (f : α → Bool) : ∀ l : List α, bls (l.map fun x => .bool (f x)) = some (l.map f)
  | [] => rfl
  | x :: r => by simp [bls,bls_map f r]
def timesB (d : D) (n : Int) : Bool := match d with
  | .tuple ts => decide ((ts.length : Int) = n) && ts.all fun t => betw t (-1000) 1000
  | _ => false
end Bide

set_option autoImplicit false
set_option linter.all false
set_option maxRecDepth 100000
set_option maxHeartbeats 4000000
/-! The law's stream of digits; right nets and times. -/
namespace Bide
open PySem
def StOk (st : List D) : Prop := ∃ (ns : List Int) (cell k : Int), st = [.list (ns.map PyData.int), .int cell, .int k] ∧ 0 ≤ cell ∧ 0 ≤ k
def Sp_stream (F : Fn) : Prop := F.io = [false] ∧ ∀ ns : List Int, ∃ st, F.run [.dict [(.none, .list (ns.map PyData.int))]] = .ok (.f (.l st)) [] ∧ StOk st
theorem stream_ok (c : Cf) : Sp_stream (D_law_stream.fn c) := by
  refine ⟨rfl, fun ns => ⟨_, ?_, ns, 0, 0, rfl, by decide, by decide⟩⟩
  simp [Def.fn,mkF,runF,startE,zAa,zAb,zAc,zAd,zAe,zAf,zAg,zAh,zAi,zAj,zAk,zAl,zAm,zAn,zAo,zAp,zAq,zAr,zAs,zAt,zAu,zAv,zAw,zAx,zAy,zAz,zA0,zA1,zA2,zA3,zA4,zA5,zA6,zA7,zA8,zA9,zBa,zBb,zBc,zBd,zBe,zBf,zBg,zBh,zBi,zBj,zBk,zBl,zBm,zBn,zBo,zBp,zBq,zBr,zBs,zBt,zBu,zBv,zBw,zBx,zBy,zBz,zB0,zB1,zB2,zB3,zB4,zB5,zB6,zB7,zB8,zB9,zCa,zCb,R.bind,OV.val,rd,stl,esc,escs,rds,isTy,truT_n,truT_b,truT_i,truT_l,truT_t,truT_s,truT_d,zCc,zCd,zCe,zCf,zCg,zCh,zCi,zCj,zCk,zCl,zCm,zCn,zCo,zCp,zCq,zCr,zCs,zCt,zCu,bop,blt,zCv,zCw,zCx,zCy,zCz,zC0,zC1,zC2,zC3,R.of,outsE,retR,putR,setV,setVs,bindTg,lend,giveBack,ownL,putL,setAt,slcD,revD,asInt,List.replicate,D_law_stream,line]
theorem atD_nat {α : Type} {xs : List α} {i : Int} (h : 0 ≤ i) : atD xs i = xs[i.toNat]? := by unfold atD; rw [if_pos h]
theorem atD_map {α : Type} {f : α → D} {xs : List α} {i : Int} (h : 0 ≤ i) (h' : i < xs.length) : ∃ x, xs[i.toNat]? = some x ∧ atD (xs.map f) i = some (f x) := by
  have hl : i.toNat < xs.length := by omega
  refine ⟨xs[i.toNat], List.getElem?_eq_getElem hl, ?_⟩
  rw [atD_nat h, List.getElem?_map, List.getElem?_eq_getElem hl]
  rfl
/-- the cell's next content -/
def stCell (x k : Int) : Int := if x < 10 ^ 18 then (((x * 48271 + k * 69621 + 11) % 2147483647) * 16807 + 13) % 2147483647 * 65537 + (x * 48271 + k * 69621 + 11) % 2147483647 else x
theorem stCell_nn {x k : Int} (h : 0 ≤ x) : 0 ≤ stCell x k := by
  unfold stCell
  split <;> omega
def Sp_next (F : Fn) : Prop := F.io = [true, false] ∧ ∀ st (m : Int), StOk st → 0 < m → m < 1073741824 → ∃ st' d, F.run [.list st, .int m] = .ok (.v (.int d)) [st'] ∧ StOk st' ∧ 0 ≤ d ∧ d < m
theorem next_ok (c : Cf) : Sp_next (D_law_next.fn c) := by
  refine ⟨rfl, fun st m ⟨ns, cell, k, hst, h1, h2⟩ hm hm' => ?_⟩
  subst hst
  have fin : ∀ (x k' : Int), 0 ≤ x → 0 ≤ k' → (D_law_next.fn c).run [.list [.list (ns.map PyData.int), .int cell, .int k], .int m] = .ok (.v (.int (x % m))) [[.list (ns.map PyData.int), .int (x / m), .int k']] →
      ∃ st' d, (D_law_next.fn c).run [.list [.list (ns.map PyData.int), .int cell, .int k], .int m] = .ok (.v (.int d)) [st'] ∧ StOk st' ∧ 0 ≤ d ∧ d < m :=
    fun x k' hx hk e => ⟨_, _, e, ⟨ns, x / m, k', rfl, Int.ediv_nonneg hx (by omega), hk⟩, Int.emod_nonneg _ (by omega), Int.emod_lt_of_pos _ hm⟩
  by_cases hc : cell = 0
  · subst hc
    by_cases hk : k < ns.length
    · obtain ⟨x, hx, ha⟩ := atD_map (f := PyData.int) h2 hk
      by_cases hb : (if x < 0 then -x else x) < 1000000000000000000
      · refine fin (stCell (if x < 0 then -x else x) k) (k + 1) (stCell_nn (by split <;> omega)) (by omega) ?_
        have e : stCell (if x < 0 then -x else x) k = ((((if x < 0 then -x else x) * 48271 + k * 69621 + 11) % 2147483647) * 16807 + 13) % 2147483647 * 65537 + ((if x < 0 then -x else x) * 48271 + k * 69621 + 11) % 2147483647 := by
          unfold stCell
          rw [if_pos (by simpa using hb)]
        rw [e]
        simp [Def.fn,mkF,runF,startE,zAa,zAb,zAc,zAd,zAe,zAf,zAg,zAh,zAi,zAj,zAk,zAl,zAm,zAn,zAo,zAp,zAq,zAr,zAs,zAt,zAu,zAv,zAw,zAx,zAy,zAz,zA0,zA1,zA2,zA3,zA4,zA5,zA6,zA7,zA8,zA9,zBa,zBb,zBc,zBd,zBe,zBf,zBg,zBh,zBi,zBj,zBk,zBl,zBm,zBn,zBo,zBp,zBq,zBr,zBs,zBt,zBu,zBv,zBw,zBx,zBy,zBz,zB0,zB1,zB2,zB3,zB4,zB5,zB6,zB7,zB8,zB9,zCa,zCb,R.bind,OV.val,rd,stl,esc,escs,rds,isTy,truT_n,truT_b,truT_i,truT_l,truT_t,truT_s,truT_d,zCc,zCd,zCe,zCf,zCg,zCh,zCi,zCj,zCk,zCl,zCm,zCn,zCo,zCp,zCq,zCr,zCs,zCt,zCu,bop,blt,zCv,zCw,zCx,zCy,zCz,zC0,zC1,zC2,zC3,R.of,outsE,retR,putR,setV,setVs,bindTg,lend,giveBack,ownL,putL,setAt,slcD,revD,asInt,List.replicate,D_law_next,hk,ha,hb,hm,hm']
      · refine fin (stCell (if x < 0 then -x else x) k) (k + 1) (stCell_nn (by split <;> omega)) (by omega) ?_
        have e : stCell (if x < 0 then -x else x) k = if x < 0 then -x else x := by
          unfold stCell
          rw [if_neg (by simpa using hb)]
        rw [e]
        simp [Def.fn,mkF,runF,startE,zAa,zAb,zAc,zAd,zAe,zAf,zAg,zAh,zAi,zAj,zAk,zAl,zAm,zAn,zAo,zAp,zAq,zAr,zAs,zAt,zAu,zAv,zAw,zAx,zAy,zAz,zA0,zA1,zA2,zA3,zA4,zA5,zA6,zA7,zA8,zA9,zBa,zBb,zBc,zBd,zBe,zBf,zBg,zBh,zBi,zBj,zBk,zBl,zBm,zBn,zBo,zBp,zBq,zBr,zBs,zBt,zBu,zBv,zBw,zBx,zBy,zBz,zB0,zB1,zB2,zB3,zB4,zB5,zB6,zB7,zB8,zB9,zCa,zCb,R.bind,OV.val,rd,stl,esc,escs,rds,isTy,truT_n,truT_b,truT_i,truT_l,truT_t,truT_s,truT_d,zCc,zCd,zCe,zCf,zCg,zCh,zCi,zCj,zCk,zCl,zCm,zCn,zCo,zCp,zCq,zCr,zCs,zCt,zCu,bop,blt,zCv,zCw,zCx,zCy,zCz,zC0,zC1,zC2,zC3,R.of,outsE,retR,putR,setV,setVs,bindTg,lend,giveBack,ownL,putL,setAt,slcD,revD,asInt,List.replicate,D_law_next,hk,ha,hb,hm,hm']
    · by_cases hb : 7 + k < 1000000000000000000
      · refine fin (stCell (7 + k) k) (k + 1) (stCell_nn (by omega)) (by omega) ?_
        have e : stCell (7 + k) k = (((7 + k) * 48271 + k * 69621 + 11) % 2147483647 * 16807 + 13) % 2147483647 * 65537 + ((7 + k) * 48271 + k * 69621 + 11) % 2147483647 := by
          unfold stCell
          rw [if_pos (by simpa using hb)]
        rw [e]
        simp [Def.fn,mkF,runF,startE,zAa,zAb,zAc,zAd,zAe,zAf,zAg,zAh,zAi,zAj,zAk,zAl,zAm,zAn,zAo,zAp,zAq,zAr,zAs,zAt,zAu,zAv,zAw,zAx,zAy,zAz,zA0,zA1,zA2,zA3,zA4,zA5,zA6,zA7,zA8,zA9,zBa,zBb,zBc,zBd,zBe,zBf,zBg,zBh,zBi,zBj,zBk,zBl,zBm,zBn,zBo,zBp,zBq,zBr,zBs,zBt,zBu,zBv,zBw,zBx,zBy,zBz,zB0,zB1,zB2,zB3,zB4,zB5,zB6,zB7,zB8,zB9,zCa,zCb,R.bind,OV.val,rd,stl,esc,escs,rds,isTy,truT_n,truT_b,truT_i,truT_l,truT_t,truT_s,truT_d,zCc,zCd,zCe,zCf,zCg,zCh,zCi,zCj,zCk,zCl,zCm,zCn,zCo,zCp,zCq,zCr,zCs,zCt,zCu,bop,blt,zCv,zCw,zCx,zCy,zCz,zC0,zC1,zC2,zC3,R.of,outsE,retR,putR,setV,setVs,bindTg,lend,giveBack,ownL,putL,setAt,slcD,revD,asInt,List.replicate,D_law_next,hk,hb,hm,hm']
      · refine fin (stCell (7 + k) k) (k + 1) (stCell_nn (by omega)) (by omega) ?_
        have e : stCell (7 + k) k = 7 + k := by
          unfold stCell
          rw [if_neg (by simpa using hb)]
        rw [e]
        simp [Def.fn,mkF,runF,startE,zAa,zAb,zAc,zAd,zAe,zAf,zAg,zAh,zAi,zAj,zAk,zAl,zAm,zAn,zAo,zAp,zAq,zAr,zAs,zAt,zAu,zAv,zAw,zAx,zAy,zAz,zA0,zA1,zA2,zA3,zA4,zA5,zA6,zA7,zA8,zA9,zBa,zBb,zBc,zBd,zBe,zBf,zBg,zBh,zBi,zBj,zBk,zBl,zBm,zBn,zBo,zBp,zBq,zBr,zBs,zBt,zBu,zBv,zBw,zBx,zBy,zBz,zB0,zB1,zB2,zB3,zB4,zB5,zB6,zB7,zB8,zB9,zCa,zCb,R.bind,OV.val,rd,stl,esc,escs,rds,isTy,truT_n,truT_b,truT_i,truT_l,truT_t,truT_s,truT_d,zCc,zCd,zCe,zCf,zCg,zCh,zCi,zCj,zCk,zCl,zCm,zCn,zCo,zCp,zCq,zCr,zCs,zCt,zCu,bop,blt,zCv,zCw,zCx,zCy,zCz,zC0,zC1,zC2,zC3,R.of,outsE,retR,putR,setV,setVs,bindTg,lend,giveBack,ownL,putL,setAt,slcD,revD,asInt,List.replicate,D_law_next,hk,hb,hm,hm']
  · refine fin cell k h1 h2 ?_
    simp [Def.fn,mkF,runF,startE,zAa,zAb,zAc,zAd,zAe,zAf,zAg,zAh,zAi,zAj,zAk,zAl,zAm,zAn,zAo,zAp,zAq,zAr,zAs,zAt,zAu,zAv,zAw,zAx,zAy,zAz,zA0,zA1,zA2,zA3,zA4,zA5,zA6,zA7,zA8,zA9,zBa,zBb,zBc,zBd,zBe,zBf,zBg,zBh,zBi,zBj,zBk,zBl,zBm,zBn,zBo,zBp,zBq,zBr,zBs,zBt,zBu,zBv,zBw,zBx,zBy,zBz,zB0,zB1,zB2,zB3,zB4,zB5,zB6,zB7,zB8,zB9,zCa,zCb,R.bind,OV.val,rd,stl,esc,escs,rds,isTy,truT_n,truT_b,truT_i,truT_l,truT_t,truT_s,truT_d,zCc,zCd,zCe,zCf,zCg,zCh,zCi,zCj,zCk,zCl,zCm,zCn,zCo,zCp,zCq,zCr,zCs,zCt,zCu,bop,blt,zCv,zCw,zCx,zCy,zCz,zC0,zC1,zC2,zC3,R.of,outsE,retR,putR,setV,setVs,bindTg,lend,giveBack,ownL,putL,setAt,slcD,revD,asInt,List.replicate,D_law_next,hc,hm,hm']
/-! ### right nets -/
structure Rul where
  s : Int
  e : Int
  lo : Option Int
  hi : Option Int
def side : Option Int → D
  | none => .none
  | some i => .int i
def Rul.d (r : Rul) : D := .tuple [.int r.s, .int r.e, side r.lo, side r.hi]
def sideIn (b : Int) : Option Int → Prop
  | none => True
  | some i => -b ≤ i ∧ i ≤ b
structure Rul.ok (r : Rul) (n : Int) : Prop where
  s0 : 0 ≤ r.s
  s1 : r.s < n
  e0 : 0 ≤ r.e
  e1 : r.e < n
  ne : r.s ≠ r.e
  lo : sideIn 100 r.lo
  hi : sideIn 100 r.hi
  one : r.lo ≠ none ∨ r.hi ≠ none
def netD (n : Int) (rs : List Rul) : D := .tuple [.int n, .tuple (rs.map Rul.d)]
def timesD (ts : List Int) : D := .tuple (ts.map PyData.int)
theorem side_ok' {o : Option Int} (h : sideIn 100 o) : sideB (side o) = true := by
  cases o with
  | none => rfl
  | some i => simp [sideIn] at h; simp [side,sideB,betw,h]
theorem isNone_side (o : Option Int) : isNone (side o) = o.isNone := by cases o <;> rfl
theorem Rul.ok.b {r : Rul} {n : Int} (h : r.ok n) : ruleB r.d n = true := by
  have h1 := h.s0
  have h2 := h.s1
  have h3 := h.e0
  have h4 := h.e1
  simp only [Rul.d, ruleB, betw, side_ok' h.lo, side_ok' h.hi, isNone_side]
  have e : PyData.eqv (.int r.s) (.int r.e) = false := by simp [PyData.eqv,h.ne]
  rw [e]
  have := h.one
  cases hl : r.lo <;> cases hh : r.hi <;> simp_all <;> omega
structure NetOk (n : Int) (rs : List Rul) : Prop where
  n1 : 1 ≤ n
  n6 : n ≤ 6
  len : rs.length ≤ 12
  rs : ∀ r ∈ rs, r.ok n
theorem NetOk.b {n : Int} {rs : List Rul} (h : NetOk n rs) : netB (netD n rs) = true := by
  have h1 := h.n1
  have h2 := h.n6
  have h3 : (rs.map Rul.d).all (fun r => ruleB r n) = true := by
    rw [List.all_map, List.all_eq_true]
    exact fun r hr => (h.rs r hr).b
  simp only [netD, netB, betw, h3, List.length_map]
  simp [h.len,h1,h2]
structure TimesOk (n : Int) (ts : List Int) : Prop where
  len : (ts.length : Int) = n
  lo : ∀ t ∈ ts, -1000 ≤ t ∧ t ≤ 1000
theorem TimesOk.b {n : Int} {ts : List Int} (h : TimesOk n ts) : timesB (timesD ts) n = true := by
  simp only [timesD, timesB, List.length_map, h.len, List.all_map]
  simp only [decide_true, Bool.true_and, List.all_eq_true, Function.comp_def, betw]
  intro t ht
  simp [h.lo t ht]
/-- the time of an event -/
def tm (ts : List Int) (i : Int) : Int := ts.getD i.toNat 0
theorem at_times {ts : List Int} {i n : Int} (h0 : 0 ≤ i) (h1 : i < n) (hl : (ts.length : Int) = n) : atD (ts.map PyData.int) i = some (.int (tm ts i)) := by
  have hl : i.toNat < ts.length := by omega
  rw [atD_nat h0, List.getElem?_map, tm, List.getD_eq_getElem?_getD, List.getElem?_eq_getElem hl]
  rfl
/-! ### the chapter's defs at right arguments -/
end Bide

set_option autoImplicit false
set_option linter.all false
/-! Walks of edges and their least lengths. -/
namespace Bide
open PySem
structure Edg where
  id : D
  s : Int
  t : Int
  w : Int
/-- a walk -/
def Pth (E : List Edg) : Int → List Edg → Int → Prop
  | i, [], j => i = j
  | i, e :: p, j => e ∈ E ∧ e.s = i ∧ Pth E e.t p j
def len : List Edg → Int
  | [] => 0
  | e :: p => e.w + len p
section
variable {E : List Edg} {n : Int}
theorem len_app : ∀ p q : List Edg, len (p ++ q) = len p + len q
  | [], q => by simp [len]
  | e :: p, q => by simp [len,len_app p q]; omega
theorem Pth.app : ∀ {p q : List Edg} {i m j : Int}, Pth E i p m → Pth E m q j → Pth E i (p ++ q) j
  | [], q, i, m, j, h, k => by cases h; exact k
  | e :: p, q, i, m, j, ⟨h1, h2, h3⟩, k => ⟨h1, h2, Pth.app h3 k⟩
theorem Pth.cut : ∀ {p q : List Edg} {i j : Int}, Pth E i (p ++ q) j → ∃ m, Pth E i p m ∧ Pth E m q j
  | [], q, i, j, h => ⟨i, rfl, h⟩
  | e :: p, q, i, j, ⟨h1, h2, h3⟩ => by
    obtain ⟨m, a, b⟩ := Pth.cut h3
    exact ⟨m, ⟨h1, h2, a⟩, b⟩
theorem Pth.snoc {p : List Edg} {e : Edg} {i j : Int} (h : Pth E i p j) (he : e ∈ E) (hs : e.s = j) : Pth E i (p ++ [e]) e.t := h.app ⟨he, hs, rfl⟩
theorem len_snoc (p : List Edg) (e : Edg) : len (p ++ [e]) = len p + e.w := by rw [len_app]; simp [len]
/-- all ends are events -/
def Ends (E : List Edg) (n : Int) : Prop := ∀ e ∈ E, (0 ≤ e.s ∧ e.s < n) ∧ 0 ≤ e.t ∧ e.t < n
theorem Pth.rng (hE : Ends E n) : ∀ {p : List Edg} {i j : Int}, Pth E i p j → 0 ≤ i → i < n → 0 ≤ j ∧ j < n
  | [], i, j, h, h0, h1 => by cases h; exact ⟨h0, h1⟩
  | e :: p, i, j, ⟨h1, h2, h3⟩, _, _ => Pth.rng hE h3 (hE e h1).2.1 (hE e h1).2.2
/-- no walk around is below 0 -/
def NoNeg (E : List Edg) (n : Int) : Prop := ∀ p i, 0 ≤ i → i < n → Pth E i p i → 0 ≤ len p
/-- times that keep all edges -/
def Pot (E : List Edg) (f : Int → Int) : Prop := ∀ e ∈ E, f e.t - f e.s ≤ e.w
theorem Pot.le {f : Int → Int} (h : Pot E f) : ∀ {p : List Edg} {i j : Int}, Pth E i p j → f j - f i ≤ len p
  | [], i, j, q => by cases q; simp [len]
  | e :: p, i, j, ⟨h1, h2, h3⟩ => by
    have a := h e h1
    have b := Pot.le h h3
    rw [h2] at a
    simp only [len]
    omega
/-- two of n + 1 drawers are the same -/
theorem php : ∀ (n : Nat) (f : Nat → Nat), (∀ i, i ≤ n → f i < n) → ∃ i j, i < j ∧ j ≤ n ∧ f i = f j
  | 0, f, h => absurd (h 0 (Nat.le_refl _)) (by omega)
  | n + 1, f, h => by
    by_cases hv : ∃ i, i ≤ n ∧ f i = f (n + 1)
    · obtain ⟨i, h1, h2⟩ := hv
      exact ⟨i, n + 1, by omega, Nat.le_refl _, h2⟩
    · have ne : ∀ i, i ≤ n → f i ≠ f (n + 1) := fun i hi e => hv ⟨i, hi, e⟩
      obtain ⟨i, j, h1, h2, h3⟩ := php n (fun i => if f i = n then f (n + 1) else f i) (fun i hi => by
        have a := h i (by omega)
        have b := h (n + 1) (Nat.le_refl _)
        have c := ne i hi
        show (if f i = n then f (n + 1) else f i) < n
        split <;> omega)
      refine ⟨i, j, h1, by omega, ?_⟩
      have a := ne i (by omega)
      have b := ne j h2
      have h3 : (if f i = n then f (n + 1) else f i) = (if f j = n then f (n + 1) else f j) := h3
      split at h3 <;> split at h3 <;> omega
theorem take_ex (hE : Ends E n) {p : List Edg} {i j : Int} (h : Pth E i p j) (h0 : 0 ≤ i) (h1 : i < n) (k : Nat) : ∃ m, Pth E i (p.take k) m ∧ Pth E m (p.drop k) j ∧ 0 ≤ m ∧ m < n := by
  have e : p.take k ++ p.drop k = p := List.take_append_drop k p
  rw [← e] at h
  obtain ⟨m, a, b⟩ := h.cut
  exact ⟨m, a, b, a.rng hE h0 h1⟩
theorem Pth.fn : ∀ {p : List Edg} {i j j' : Int}, Pth E i p j → Pth E i p j' → j = j'
  | [], i, j, j', h, h' => by cases h; cases h'; rfl
  | e :: p, i, j, j', ⟨_, _, h⟩, ⟨_, _, h'⟩ => Pth.fn h h'
/-- a walk of fewer edges than events, at most as long -/
theorem shorten (hE : Ends E n) (hN : NoNeg E n) : ∀ (k : Nat) {p : List Edg} {i j : Int}, p.length ≤ k → Pth E i p j → 0 ≤ i → i < n → ∃ q, Pth E i q j ∧ len q ≤ len p ∧ (q.length : Int) < n ∧ q.length ≤ p.length
  | k, p, i, j, hk, h, h0, h1 => by
    by_cases hl : (p.length : Int) < n
    · exact ⟨p, h, Int.le_refl _, hl, Nat.le_refl _⟩
    · have hch : ∀ k, ∃ m, Pth E i (p.take k) m ∧ Pth E m (p.drop k) j ∧ 0 ≤ m ∧ m < n := take_ex hE h h0 h1
      let f : Nat → Nat := fun k => (Classical.choose (hch k)).toNat
      have hf : ∀ k, Pth E i (p.take k) (f k : Nat) ∧ Pth E (f k : Nat) (p.drop k) j ∧ f k < n.toNat := fun k => by
        obtain ⟨a, b, c, d⟩ := Classical.choose_spec (hch k)
        have e : ((f k : Nat) : Int) = Classical.choose (hch k) := by show ((Classical.choose (hch k)).toNat : Int) = _; omega
        rw [e]
        exact ⟨a, b, by omega⟩
      obtain ⟨a, b, hab, hb, hfe⟩ := php n.toNat f fun k _ => (hf k).2.2
      obtain ⟨a1, _, _⟩ := hf a
      obtain ⟨b1, b2, b3⟩ := hf b
      -- the part between
      have ts : p.take b = p.take a ++ (p.drop a).take (b - a) := by
        have : p.take b = p.take (a + (b - a)) := by rw [show a + (b - a) = b by omega]
        rw [this, List.take_add]
      have lp : a < p.length := by omega
      have b1' := b1
      rw [ts] at b1'
      obtain ⟨m, c1, c2⟩ := b1'.cut
      have em := c1.fn a1
      subst em
      rw [← hfe] at c2
      have mid := hN _ _ (by omega) (by have := (hf a).2.2; omega) c2
      have lenp : len p = len (p.take a) + len ((p.drop a).take (b - a)) + len (p.drop b) := by
        conv => lhs; rw [← List.take_append_drop b p, len_app, ts, len_app]
      have new : Pth E i (p.take a ++ p.drop b) j := a1.app (by rw [hfe]; exact b2)
      have ll : (p.take a ++ p.drop b).length < p.length := by
        rw [List.length_append, List.length_take, List.length_drop]
        omega
      cases k with
      | zero => omega
      | succ k =>
        obtain ⟨q, q1, q2, q3, q4⟩ := shorten hE hN k (p := p.take a ++ p.drop b) (by omega) new h0 h1
        exact ⟨q, q1, by rw [len_app] at q2; omega, q3, by omega⟩
/-- the least length of a walk -/
def Dist (E : List Edg) (i j : Int) : Option Int → Prop
  | some d => (∃ p, Pth E i p j ∧ len p = d) ∧ ∀ p, Pth E i p j → d ≤ len p
  | none => ∀ p, ¬ Pth E i p j
theorem Dist.uniq {i j : Int} : ∀ {o o' : Option Int}, Dist E i j o → Dist E i j o' → o = o'
  | none, none, _, _ => rfl
  | some d, none, ⟨⟨p, h, _⟩, _⟩, h' => absurd h (h' p)
  | none, some d, h', ⟨⟨p, h, _⟩, _⟩ => absurd h (h' p)
  | some d, some d', ⟨⟨p, h, e⟩, k⟩, ⟨⟨p', h', e'⟩, k'⟩ => by
    have a := k p' h'
    have b := k' p h
    rw [e'] at a
    rw [e] at b
    congr 1
    omega
/-- the least length of a walk of at most m edges -/
def DistLe (E : List Edg) (m : Nat) (i j : Int) : Option Int → Prop
  | some d => (∃ p, Pth E i p j ∧ len p = d) ∧ ∀ p, p.length ≤ m → Pth E i p j → d ≤ len p
  | none => ∀ p, p.length ≤ m → ¬ Pth E i p j
theorem DistLe.dist (hE : Ends E n) (hN : NoNeg E n) {m : Nat} {i j : Int} (h0 : 0 ≤ i) (h1 : i < n) (hm : n ≤ m + 1) : ∀ {o : Option Int}, DistLe E m i j o → Dist E i j o
  | none, h => fun p hp => by
    obtain ⟨q, q1, _, q3, _⟩ := shorten hE hN p.length (Nat.le_refl _) hp h0 h1
    exact h q (by omega) q1
  | some d, ⟨a, b⟩ => ⟨a, fun p hp => by
    obtain ⟨q, q1, q2, q3, _⟩ := shorten hE hN p.length (Nat.le_refl _) hp h0 h1
    exact Int.le_trans (b q (by omega) q1) q2⟩
end
/-! ### tables by pairs of events -/
abbrev AL (α : Type) := List ((Int × Int) × α)
def aget {α : Type} : AL α → Int × Int → Option α
  | [], _ => none
  | (k, v) :: r, x => if k = x then some v else aget r x
def aput {α : Type} (w : AL α) (x : Int × Int) (y : α) : AL α :=
  if (w.any fun kv => decide (kv.1 = x)) = true then w.map (fun kv => if kv.1 = x then (kv.1, y) else kv) else w ++ [(x, y)]
section
variable {α : Type}
theorem aget_any : ∀ (w : AL α) (x : Int × Int), (w.any fun kv => decide (kv.1 = x)) = (aget w x).isSome
  | [], _ => rfl
  | (k, v) :: r, x => by
    by_cases h : k = x
    · simp [aget,h]
    · simp [aget,h,aget_any r x]
theorem aget_map : ∀ (w : AL α) (x z : Int × Int) (y : α), aget (w.map (fun kv => if kv.1 = x then (kv.1, y) else kv)) z = if x = z then (aget w x).map (fun _ => y) else aget w z
  | [], x, z, y => by simp [aget]
  | (k, v) :: r, x, z, y => by
    by_cases h : k = x
    · subst h
      by_cases hz : k = z
      · simp [aget,hz]
      · simp [aget,hz,aget_map r k z y]
    · by_cases hz : k = z
      · have hx : x ≠ z := fun e => h (by rw [hz, e])
        have hx' : z ≠ x := Ne.symm hx
        simp [aget,h,hz,hx,hx']
      · simp [aget,h,hz,aget_map r x z y]
theorem aget_app : ∀ (w : AL α) (x z : Int × Int) (y : α), aget (w ++ [(x, y)]) z = match aget w z with
    | some v => some v
    | none => if x = z then some y else none
  | [], x, z, y => by simp [aget]
  | (k, v) :: r, x, z, y => by
    by_cases h : k = z
    · simp [aget,h]
    · simp [aget,h,aget_app r x z y]
theorem aget_put (w : AL α) (x z : Int × Int) (y : α) : aget (aput w x y) z = if x = z then some y else aget w z := by
  unfold aput
  rw [aget_any]
  by_cases h : (aget w x).isSome = true
  · rw [if_pos h, aget_map]
    by_cases e : x = z
    · obtain ⟨v, hv⟩ := Option.isSome_iff_exists.mp h
      simp [e,hv] at *
      simp [hv]
    · simp [e]
  · rw [if_neg h, aget_app]
    by_cases e : x = z
    · have : aget w z = none := by
        rw [← e]
        cases q : aget w x with
        | none => rfl
        | some v => rw [q] at h; simp at h
      simp [e,this]
    · simp only [e, if_false]
      split <;> rename_i hh <;> rw [hh]
theorem aget_mem : ∀ {w : AL α} {x : Int × Int}, x ∈ w.map (·.1) → ∃ v, aget w x = some v
  | [], x, h => by simp at h
  | (k, v) :: r, x, h => by
    by_cases e : k = x
    · exact ⟨v, by simp [aget,e]⟩
    · have : x ∈ r.map (·.1) := by
        rcases List.mem_cons.mp h with h | h
        · exact absurd h.symm e
        · exact h
      obtain ⟨u, hu⟩ := aget_mem this
      exact ⟨u, by simp [aget,e,hu]⟩
theorem mem_aget : ∀ {w : AL α} {x : Int × Int} {v : α}, aget w x = some v → x ∈ w.map (·.1)
  | [], x, v, h => by simp [aget] at h
  | (k, u) :: r, x, v, h => by
    by_cases e : k = x
    · simp [e]
    · simp only [aget, e, if_false] at h
      exact List.mem_cons_of_mem _ (mem_aget h)
end
def pkD (k : Int × Int) : D := .tuple [.int k.1, .int k.2]
section
variable {α : Type} {f : α → D}
end
end Bide

set_option autoImplicit false
set_option linter.all false
/-! Loops over lists that come of other lists; slots that may hold what they will. -/
namespace Bide
open PySem
def SV.ioB : SV → Bool
  | .io _ => true
  | _ => false
theorem zC9 : SV.ioB .no = false := rfl
theorem zDa (d : D) : SV.ioB (.sh d) = false := rfl
theorem zDb (d : OV) : SV.ioB (.ow d) = false := rfl
/-- some slots are told, others may hold what they will -/
def Fits : List (Option SV) → Ev → Prop
  | [], e => e = []
  | some x :: ps, e => ∃ e', e = x :: e' ∧ Fits ps e'
  | none :: ps, e => ∃ y e', e = y :: e' ∧ y.ioB = false ∧ Fits ps e'
theorem zDe : Fits [] [] ↔ True := by simp [Fits]
theorem zDc {x y : SV} {ps : List (Option SV)} {e : Ev} : Fits (some x :: ps) (y :: e) ↔ y = x ∧ Fits ps e := by
  constructor
  · rintro ⟨e', h, q⟩
    cases h
    exact ⟨rfl, q⟩
  · rintro ⟨rfl, q⟩
    exact ⟨e, rfl, q⟩
theorem zDd {y : SV} {ps : List (Option SV)} {e : Ev} : Fits (none :: ps) (y :: e) ↔ y.ioB = false ∧ Fits ps e := by
  constructor
  · rintro ⟨z, e', h, i, q⟩
    cases h
    exact ⟨i, q⟩
  · rintro ⟨i, q⟩
    exact ⟨y, e, rfl, i, q⟩
theorem zC4 {x v : SV} {ev : Ev} (h : x.ioB = false) : setV (x :: ev) 0 v = some (v :: ev) := by
  cases x <;> first | rfl | cases h
theorem zC5 {v : SV} {ev : Ev} : setV (.no :: ev) 0 v = some (v :: ev) := rfl
theorem zC6 {v : SV} {ev : Ev} {d : D} : setV (.sh d :: ev) 0 v = some (v :: ev) := rfl
theorem zC7 {v : SV} {ev : Ev} {d : OV} : setV (.ow d :: ev) 0 v = some (v :: ev) := rfl
theorem zC8 {x v : SV} {ev : Ev} {n : Nat} : setV (x :: ev) (n + 1) v = (setV ev n v).map (x :: ·) := by
  simp only [setV, List.getElem?_cons_succ, List.set_cons_succ]
  cases h : ev[n]? with
  | none => rfl
  | some y => cases y <;> rfl
/-- a comprehension that changes nothing: several own names, a target of any form -/
theorem lcL_gen {α : Type} {own tg : List Nat} {tup : Bool} {t : Ev → R Bool} {f : Ev → R RV} {enc : α → D} {p : α → Bool} {g : α → D} {w0 : Ev} {ok : Ev → Prop} (hok : ∀ e, ok e → wipeE e own = some w0) : ∀ (as : List α) (acc : List D) (e : Ev), ok e →
    (∀ a ∈ as, ∃ e1, bindTg tup tg w0 (enc a) = some e1 ∧ ok e1 ∧ t e1 = .ok (p a) e1 ∧ (p a = true → ∃ r, f e1 = .ok r e1 ∧ esc e1 r = some (g a, e1))) →
    ∃ e', ok e' ∧ lcL own tg tup t f (as.map enc) acc e = .ok (acc ++ (as.filter p).map g) e'
  | [], acc, e, h, _ => ⟨e, h, by simp only [List.map_nil, lcL, hok e h]; simp⟩
  | a :: as, acc, e, h, hh => by
    obtain ⟨e1, h1, h2, h3, h4⟩ := hh a (by simp)
    cases hp : p a with
    | false =>
      obtain ⟨e', q1, q2⟩ := lcL_gen hok as acc e1 h2 (fun b hb => hh b (by simp [hb]))
      refine ⟨e', q1, ?_⟩
      rw [hp] at h3
      simp only [List.map_cons, lcL, hok e h, h1, h3, q2]
      simp [hp]
    | true =>
      obtain ⟨r, h5, h6⟩ := h4 hp
      obtain ⟨e', q1, q2⟩ := lcL_gen hok as (acc ++ [g a]) e1 h2 (fun b hb => hh b (by simp [hb]))
      refine ⟨e', q1, ?_⟩
      rw [hp] at h3
      simp only [List.map_cons, lcL, hok e h, h1, h3, h5, h6, q2]
      simp [hp]
theorem ev_lcg {α : Type} {c : Cf} {own tg : List Nat} {tup : Bool} {it : It} {cd : C} {e : E} {ev e1 w0 : Ev} {as : List α} {enc : α → D} {p : α → Bool} {g : α → D} (hit : evIt c it ev = .ok (as.map enc) e1) (hw : wipeE e1 own = some w0) (hu : unwipe e1 e1 own = e1)
    (h : ∀ a ∈ as, ∃ e2, bindTg tup tg w0 (enc a) = some e2 ∧ wipeE e2 own = some w0 ∧ unwipe e1 e2 own = e1 ∧ evC c cd e2 = .ok (p a) e2 ∧ (p a = true → ∃ r, evE c e e2 = .ok r e2 ∧ esc e2 r = some (g a, e2))) :
    evE c (.lc own tg tup it cd e) ev = .ok (.f (.l ((as.filter p).map g))) e1 := by
  obtain ⟨e', ⟨q1, q1'⟩, q2⟩ := lcL_gen (t := evC c cd) (f := evE c e) (own := own) (tg := tg) (tup := tup) (enc := enc) (p := p) (g := g) (w0 := w0) (ok := fun e => wipeE e own = some w0 ∧ unwipe e1 e own = e1) (fun e h => h.1) as [] e1 ⟨hw, hu⟩ (fun a ha => by
    obtain ⟨e2, h1, h2, h3, h4⟩ := h a ha
    exact ⟨e2, h1, ⟨h2, h3⟩, h4⟩)
  simp only [evE, hit, R.bind, hw, q2, q1']
  simp
theorem ev_lcgn {α : Type} {c : Cf} {own tg : List Nat} {tup : Bool} {it : It} {e : E} {ev e1 w0 : Ev} {as : List α} {enc : α → D} {g : α → D} (hit : evIt c it ev = .ok (as.map enc) e1) (hw : wipeE e1 own = some w0) (hu : unwipe e1 e1 own = e1)
    (h : ∀ a ∈ as, ∃ e2, bindTg tup tg w0 (enc a) = some e2 ∧ wipeE e2 own = some w0 ∧ unwipe e1 e2 own = e1 ∧ (∃ r, evE c e e2 = .ok r e2 ∧ esc e2 r = some (g a, e2))) :
    evE c (.lc own tg tup it .no e) ev = .ok (.f (.l (as.map g))) e1 := by
  have := ev_lcg (c := c) (cd := .no) (e := e) (p := fun _ => true) (g := g) hit hw hu (fun a ha => by
    obtain ⟨e2, h1, h2, h3, h4⟩ := h a ha
    exact ⟨e2, h1, h2, h3, rfl, fun _ => h4⟩)
  rw [List.filter_eq_self.mpr (by simp)] at this
  exact this
theorem rngD_map (lo : Int) (n : Nat) : rngD lo n = (List.range n).map fun (i : Nat) => PyData.int (lo + i) := rfl
/-! ### statements, one after another -/
def wp (c : Cf) (b : Ss) (ev : Ev) (Q : Fl → Ev → Prop) : Prop := ∃ fl e, evSs c b ev = .ok fl e ∧ Q fl e
def seqQ (c : Cf) (b : Ss) (Q : Fl → Ev → Prop) : Fl → Ev → Prop := fun fl e => match fl with
  | .nx => wp c b e Q
  | f => Q f e
section
variable {c : Cf} {a b rest : Ss} {s : S} {ev e1 e2 : Ev} {Q Q' : Fl → Ev → Prop} {t : T} {e : E} {r q : RV}
theorem zDg (h : Q .nx ev) : wp c .nil ev Q := ⟨.nx, ev, by simp only [evSs], h⟩
theorem zDf (h : evS c s ev = .ok .nx e1) (k : wp c rest e1 Q) : wp c (.cons s rest) ev Q := by
  obtain ⟨fl, e, h1, h2⟩ := k
  exact ⟨fl, e, by simp only [evSs, h, R.bind, h1], h2⟩
theorem wp_fl {fl : Fl} (h : evS c s ev = .ok fl e1) (hn : fl ≠ .nx) (k : Q fl e1) : wp c (.cons s rest) ev Q := by
  refine ⟨fl, e1, ?_, k⟩
  simp only [evSs, h, R.bind]
theorem wp_seq {fl : Fl} (h : evS c s ev = .ok fl e1) (k : seqQ c rest Q fl e1) : wp c (.cons s rest) ev Q := by
  cases fl with
  | nx => exact zDf h k
  | br => exact wp_fl h nofun k
  | ct => exact wp_fl h nofun k
  | rt r => exact wp_fl h nofun k
theorem zDi (h : evT c t ev = .ok true e1) (k : wp c a e1 (seqQ c rest Q)) : wp c (.cons (.ife t a b) rest) ev Q := by
  obtain ⟨fl, e, h1, h2⟩ := k
  exact wp_seq (by simp only [evS, h, R.bind, h1]) h2
theorem zDh (h : evT c t ev = .ok false e1) (k : wp c b e1 (seqQ c rest Q)) : wp c (.cons (.ife t a b) rest) ev Q := by
  obtain ⟨fl, e, h1, h2⟩ := k
  exact wp_seq (by simp only [evS, h, R.bind, h1]) h2
theorem zDj (h : evE c e ev = .ok r e1) (hr : retR e1 r = some (q, e2)) (k : Q (.rt q) e2) : wp c (.cons (.ret e) rest) ev Q :=
  wp_fl (fl := .rt q) (by simp only [evS, h, R.bind, hr]) nofun k
theorem wp_for {α : Type} {tg : List Nat} {tup : Bool} {it : It} {enc : α → D} {as : List α} (I : List α → Ev → Prop) (hit : evIt c it ev = .ok (as.map enc) e1) (h0 : I [] e1)
    (step : ∀ pre x suf, as = pre ++ x :: suf → ∀ e, I pre e → ∃ e1, bindTg tup tg e (enc x) = some e1 ∧ wp c b e1 fun fl e2 => match fl with
      | .nx => I (pre ++ [x]) e2
      | .ct => I (pre ++ [x]) e2
      | .br => False
      | .rt r => Q (.rt r) e2)
    (k : ∀ e', I as e' → wp c rest e' Q) : wp c (.cons (.forr tg tup it b) rest) ev Q := by
  have key : ∀ (suf pre : List α) (e : Ev), as = pre ++ suf → I pre e → (∃ e', forL tg tup (evSs c b) (suf.map enc) e = .ok .nx e' ∧ I as e') ∨ ∃ r e', forL tg tup (evSs c b) (suf.map enc) e = .ok (.rt r) e' ∧ Q (.rt r) e' := by
    intro suf
    induction suf with
    | nil => exact fun pre e ha h => .inl ⟨e, rfl, by rw [ha, List.append_nil]; exact h⟩
    | cons x suf ih =>
      intro pre e ha h
      obtain ⟨e1, h1, fl, e2, h2, h3⟩ := step pre x suf ha e h
      cases fl with
      | br => exact h3.elim
      | rt r => exact .inr ⟨r, e2, by simp only [List.map_cons, forL, h1, h2], h3⟩
      | nx =>
        rcases ih (pre ++ [x]) e2 (by rw [ha]; simp) h3 with ⟨e', q1, q2⟩ | ⟨r, e', q1, q2⟩
        · exact .inl ⟨e', by simp only [List.map_cons, forL, h1, h2, q1], q2⟩
        · exact .inr ⟨r, e', by simp only [List.map_cons, forL, h1, h2, q1], q2⟩
      | ct =>
        rcases ih (pre ++ [x]) e2 (by rw [ha]; simp) h3 with ⟨e', q1, q2⟩ | ⟨r, e', q1, q2⟩
        · exact .inl ⟨e', by simp only [List.map_cons, forL, h1, h2, q1], q2⟩
        · exact .inr ⟨r, e', by simp only [List.map_cons, forL, h1, h2, q1], q2⟩
  rcases key as [] e1 rfl h0 with ⟨e', q1, q2⟩ | ⟨r, e', q1, q2⟩
  · exact zDf (by simp only [evS, hit, R.bind, q1]) (k e' q2)
  · exact wp_fl (fl := .rt r) (by simp only [evS, hit, R.bind, q1]) nofun q2
/-- what a body's end wants -/
def endQ (io : List Bool) (P : RV → List (List D) → Prop) : Fl → Ev → Prop := fun fl e => match fl with
  | .nx => ∃ o, outsE e io = some o ∧ P (.v .none) o
  | .rt (.v d) => ∃ o, outsE e io = some o ∧ P (.v d) o
  | .rt (.f d) => ∃ o, outsE e io = some o ∧ P (.f d) o
  | _ => False
theorem run_wp {d : Def} {ds : List D} {ev0 : Ev} {P : RV → List (List D) → Prop} (h0 : startE d.io ds = some ev0) (h : wp c d.body (ev0 ++ List.replicate (d.N.length - ev0.length) .no) (endQ d.io P)) : ∃ r o, (d.fn c).run ds = .ok r o ∧ P r o := by
  obtain ⟨fl, e, h1, h2⟩ := h
  show ∃ r o, runF c d.N.length d.io d.body ds = .ok r o ∧ P r o
  unfold runF
  simp only [h0, h1]
  cases fl with
  | nx => obtain ⟨o, q1, q2⟩ := h2; exact ⟨_, o, by simp only [q1], q2⟩
  | br => exact h2.elim
  | ct => exact h2.elim
  | rt r =>
    cases r with
    | v d => obtain ⟨o, q1, q2⟩ := h2; exact ⟨_, o, by simp only [q1], q2⟩
    | f d => obtain ⟨o, q1, q2⟩ := h2; exact ⟨_, o, by simp only [q1], q2⟩
    | s i => exact h2.elim
theorem run_eq {d : Def} {ds : List D} {ev0 : Ev} {r : RV} {o : List (List D)} (h0 : startE d.io ds = some ev0) (h : wp c d.body (ev0 ++ List.replicate (d.N.length - ev0.length) .no) (endQ d.io fun r' o' => r' = r ∧ o' = o)) : (d.fn c).run ds = .ok r o := by
  obtain ⟨r', o', h1, rfl, rfl⟩ := run_wp h0 h
  exact h1
end
end Bide

set_option autoImplicit false
set_option linter.all false
set_option maxRecDepth 100000
set_option maxHeartbeats 4000000
/-! Drawn nets and times; the law's comparison. -/
namespace Bide
open PySem
def farIn (far : Int) (r : Rul) : Prop := sideIn far r.lo ∧ sideIn far r.hi
/-! ### the law's comparison -/
/-- data without dicts, of at most that depth -/
def gd : Nat → D → Bool
  | 0, _ => false
  | n + 1, d => match d with
    | .none => true
    | .bool _ => true
    | .int _ => true
    | .str s => SeqAt.shaped (.str s)
    | .tuple ds => decide (ds.length ≤ 1000) && ds.all (gd n)
    | .list ds => decide (ds.length ≤ 1000) && ds.all (gd n)
    | .dict _ => false
theorem bls_true {α : Type} : ∀ l : List α, bls (l.map fun _ => .bool true) = some (l.map fun _ => true)
  | [] => rfl
  | x :: r => by simp [bls,bls_true r]
theorem gd_all {n : Nat} (ih : ∀ d, gd n d = true → PyData.canLay0 d = true ∧ PyData.depth d ≤ n) : ∀ ds : List D, (∀ x ∈ ds, gd n x = true) → PyData.canLayAll0 ds = true ∧ PyData.depthAll ds ≤ n
  | [], _ => ⟨by simp [PyData.canLayAll0], by simp [PyData.depthAll]⟩
  | d :: ds, h => by
    obtain ⟨h1, h2⟩ := ih d (h d (by simp))
    obtain ⟨h3, h4⟩ := gd_all ih ds (fun x hx => h x (by simp [hx]))
    exact ⟨by simp [PyData.canLayAll0,h1,h3], by simp only [PyData.depthAll]; omega⟩
theorem gd_lay : ∀ (n : Nat) (d : D), gd n d = true → PyData.canLay0 d = true ∧ PyData.depth d ≤ n
  | 0, d, h => by simp [gd] at h
  | n + 1, d, h => by
    cases d with
    | none => exact ⟨rfl, by simp [PyData.depth]⟩
    | bool b => exact ⟨rfl, by simp [PyData.depth]⟩
    | int i => exact ⟨rfl, by simp [PyData.depth]⟩
    | str s =>
      simp only [gd, SeqAt.shaped, Bool.and_eq_true] at h
      exact ⟨h.1, by simp [PyData.depth]⟩
    | dict _ => simp [gd] at h
    | tuple ds =>
      simp only [gd, Bool.and_eq_true, List.all_eq_true] at h
      obtain ⟨h1, h2⟩ := gd_all (gd_lay n) ds h.2
      exact ⟨by simp [PyData.canLay0,h1], by simp only [PyData.depth]; omega⟩
    | list ds =>
      simp only [gd, Bool.and_eq_true, List.all_eq_true] at h
      obtain ⟨h1, h2⟩ := gd_all (gd_lay n) ds h.2
      exact ⟨by simp [PyData.canLay0,h1], by simp only [PyData.depth]; omega⟩
theorem gd_shaped {n : Nat} {d : D} (hn : n ≤ 60) (h : gd n d = true) : SeqAt.shaped d = true := by
  obtain ⟨h1, h2⟩ := gd_lay n d h
  simp only [SeqAt.shaped, h1, Bool.true_and, decide_eq_true_eq]
  omega
end Bide

set_option pp.maxSteps 400
set_option autoImplicit false
set_option linter.all false
set_option maxRecDepth 100000
set_option maxHeartbeats 4000000
/-! The program's edges and walks: what they compute. -/
namespace Bide
open PySem
/-! ### edges -/
def hiN : D := .str (Str.ofString "high")
def loN : D := .str (Str.ofString "low")
def edgR (p : Nat × Rul) : List Edg :=
  (match p.2.hi with
    | some h => [⟨.tuple [.int p.1, hiN], p.2.s, p.2.e, h⟩]
    | none => []) ++ (match p.2.lo with
    | some l => [⟨.tuple [.int p.1, loN], p.2.e, p.2.s, 0 - l⟩]
    | none => [])
def enumL {α : Type} (rs : List α) : List (Nat × α) := (List.range rs.length).zip rs
def edL (l : List (Nat × Rul)) : List Edg := l.flatMap edgR
def edgs (rs : List Rul) : List Edg := edL (enumL rs)
def Edg.d (e : Edg) : D := .tuple [e.id, .int e.s, .int e.t, .int e.w]
theorem enumL_len {α : Type} (rs : List α) : (enumL rs).length = rs.length := by simp [enumL]
theorem enumL_mem {α : Type} {rs : List α} {p : Nat × α} (h : p ∈ enumL rs) : rs[p.1]? = some p.2 ∧ p.2 ∈ rs := by
  obtain ⟨i, hi⟩ := List.mem_iff_getElem?.mp h
  unfold enumL at hi
  obtain ⟨h1, h2⟩ := List.getElem?_zip_eq_some.mp hi
  have h3 : i < (List.range rs.length).length := (List.getElem?_eq_some_iff.mp h1).1
  rw [List.getElem?_eq_getElem h3] at h1
  simp at h1
  rw [← h1]
  exact ⟨h2, List.mem_of_getElem? h2⟩
theorem enumD_map {α : Type} (f : α → D) (rs : List α) : enumD (rs.map f) = (enumL rs).map fun p => .tuple [.int (p.1 : Nat), f p.2] := by
  unfold enumD enumL
  rw [List.length_map, List.zip_map_right, List.map_map]
  rfl
theorem edgs_ends {n : Int} {rs : List Rul} (h : ∀ r ∈ rs, r.ok n) : Ends (edgs rs) n := by
  intro e he
  obtain ⟨p, hp, hep⟩ := List.mem_flatMap.mp he
  have ok := h p.2 (enumL_mem hp).2
  have := ok.s0; have := ok.s1; have := ok.e0; have := ok.e1
  unfold edgR at hep
  rcases List.mem_append.mp hep with hh | hh
  · split at hh
    · simp at hh; subst hh; simp only; omega
    · cases hh
  · split at hh
    · simp at hh; subst hh; simp only; omega
    · cases hh
/-! ### longer walks -/
def lgB (f : AL (Int × List D)) (x : Int × Int) (l : Int) : Bool := match aget f x with
  | none => true
  | some v => decide (l < v.1)
def lgE (l : Int) (p : List D) (s h : Int) (f : AL (Int × List D)) (e : Edg) : AL (Int × List D) :=
  if e.s = h ∧ lgB f (s, e.t) (l + e.w) = true then aput f (s, e.t) (l + e.w, p ++ [e.id]) else f
def lgS (E : List Edg) (W f : AL (Int × List D)) (k : Int × Int) : AL (Int × List D) := match aget W k with
  | some v => E.foldl (lgE v.1 v.2 k.1 k.2) f
  | none => f
def longer (E : List Edg) (W : AL (Int × List D)) : AL (Int × List D) := (W.map (·.1)).foldl (lgS E W) []
structure WF {α : Type} (n : Int) (W : AL α) : Prop where
  nd : (W.map (·.1)).Nodup
  rg : ∀ k ∈ W.map (·.1), (0 ≤ k.1 ∧ k.1 < n) ∧ 0 ≤ k.2 ∧ k.2 < n
theorem foldl_inv {α β : Type} {P : β → Prop} {f : β → α → β} : ∀ (as : List α) (s : β), P s → (∀ s a, a ∈ as → P s → P (f s a)) → P (as.foldl f s)
  | [], s, h, _ => h
  | a :: as, s, h, hh => foldl_inv as (f s a) (hh s a (by simp) h) fun s b hb => hh s b (by simp [hb])
theorem foldl_has {α β : Type} {P : β → Prop} {f : β → α → β} {x : α} : ∀ (as : List α) (s : β), x ∈ as → (∀ s, P (f s x)) → (∀ s a, P s → P (f s a)) → P (as.foldl f s)
  | a :: as, s, h, h1, h2 => by
    rcases List.mem_cons.mp h with rfl | h
    · exact foldl_inv as _ (h1 s) fun s b _ => h2 s b
    · exact foldl_has as (f s a) h h1 h2
theorem nodup_sub {α : Type} [DecidableEq α] : ∀ {l L : List α}, l.Nodup → (∀ x ∈ l, x ∈ L) → l.length ≤ L.length
  | [], L, _, _ => Nat.zero_le _
  | x :: l, L, hn, hs => by
    have hx : x ∈ L := hs x (by simp)
    have hn' := List.nodup_cons.mp hn
    have := nodup_sub (l := l) (L := L.erase x) hn'.2 (fun y hy => (List.mem_erase_of_ne (fun e => hn'.1 (by rw [← e]; exact hy))).mpr (hs y (by simp [hy])))
    rw [List.length_erase_of_mem hx] at this
    have : 0 < L.length := List.length_pos_of_mem hx
    simp only [List.length_cons]
    omega
theorem WF.len {α : Type} {n : Int} {W : AL α} (h : WF n W) (h6 : n ≤ 6) : W.length ≤ 36 := by
  have key : ∀ k ∈ W.map (·.1), k ∈ (List.range 6).flatMap fun (i : Nat) => (List.range 6).map fun (j : Nat) => ((i : Int), (j : Int)) := fun k hk => by
    obtain ⟨⟨a, b⟩, c, d⟩ := h.rg k hk
    rw [List.mem_flatMap]
    exact ⟨k.1.toNat, by simp; omega, by
      rw [List.mem_map]
      exact ⟨k.2.toNat, by simp; omega, by ext <;> simp <;> omega⟩⟩
  have := nodup_sub h.nd key
  rw [List.length_map] at this
  exact this
theorem aput_keys {α : Type} (W : AL α) (k : Int × Int) (v : α) : (aput W k v).map (·.1) = if (aget W k).isSome = true then W.map (·.1) else W.map (·.1) ++ [k] := by
  unfold aput
  rw [aget_any]
  split
  · rw [List.map_map]
    apply List.map_congr_left
    intro kv _
    by_cases h : kv.1 = k <;> simp [h]
  · simp
theorem WF.put {α : Type} {n : Int} {W : AL α} {k : Int × Int} {v : α} (h : WF n W) (hk : (0 ≤ k.1 ∧ k.1 < n) ∧ 0 ≤ k.2 ∧ k.2 < n) : WF n (aput W k v) := by
  constructor
  · rw [aput_keys]
    split
    · exact h.nd
    · rename_i hh
      rw [List.nodup_append]
      refine ⟨h.nd, by simp, fun a ha b hb => ?_⟩
      simp at hb
      subst hb
      rintro rfl
      obtain ⟨u, hu⟩ := aget_mem ha
      rw [hu] at hh
      simp at hh
  · rw [aput_keys]
    split
    · exact h.rg
    · intro x hx
      rcases List.mem_append.mp hx with hx | hx
      · exact h.rg x hx
      · simp at hx; subst hx; exact hk
theorem WF.nil {α : Type} {n : Int} : WF n ([] : AL α) := ⟨by simp, by simp⟩
/-- walks of just k edges, the least for each two events -/
def Lv (E : List Edg) (n : Int) (k : Nat) (W : AL (Int × List D)) : Prop := (∀ i j l p, aget W (i, j) = some (l, p) → ∃ q, Pth E i q j ∧ q.length = k ∧ len q = l ∧ p = q.map (·.id)) ∧
  ∀ i j q, 0 ≤ i → i < n → Pth E i q j → q.length = k → ∃ l p, aget W (i, j) = some (l, p) ∧ l ≤ len q
def Cm (i j d : Int) (f : AL (Int × List D)) : Prop := ∃ l p, aget f (i, j) = some (l, p) ∧ l ≤ d
theorem lgE_cm {i j d l s h : Int} {p : List D} {f : AL (Int × List D)} {e : Edg} (c : Cm i j d f) : Cm i j d (lgE l p s h f e) := by
  obtain ⟨l0, p0, h1, h2⟩ := c
  unfold lgE
  split
  · rename_i hh
    by_cases hx : (s, e.t) = (i, j)
    · refine ⟨l + e.w, p ++ [e.id], by rw [aget_put, if_pos hx], ?_⟩
      have := hh.2
      unfold lgB at this
      rw [hx, h1] at this
      simp at this
      omega
    · exact ⟨l0, p0, by rw [aget_put, if_neg hx]; exact h1, h2⟩
  · exact ⟨l0, p0, h1, h2⟩
theorem lgE_new {l s : Int} {p : List D} {f : AL (Int × List D)} {e : Edg} : Cm s e.t (l + e.w) (lgE l p s e.s f e) := by
  unfold lgE
  by_cases hb : lgB f (s, e.t) (l + e.w) = true
  · rw [if_pos ⟨rfl, hb⟩]
    exact ⟨l + e.w, p ++ [e.id], by rw [aget_put, if_pos rfl], Int.le_refl _⟩
  · rw [if_neg (fun h => hb h.2)]
    unfold lgB at hb
    cases q : aget f (s, e.t) with
    | none => rw [q] at hb; simp at hb
    | some v => rw [q] at hb; simp at hb; exact ⟨v.1, v.2, q, hb⟩
theorem lgS_cm {i j d : Int} {E : List Edg} {W f : AL (Int × List D)} {k : Int × Int} (c : Cm i j d f) : Cm i j d (lgS E W f k) := by
  unfold lgS
  split
  · exact foldl_inv E f c fun s e _ c => lgE_cm c
  · exact c
theorem snoc_cases {α : Type} : ∀ (l : List α), l = [] ∨ ∃ a b, l = a ++ [b]
  | [] => .inl rfl
  | a :: l => by
    rcases snoc_cases l with rfl | ⟨x, y, rfl⟩
    · exact .inr ⟨[], a, rfl⟩
    · exact .inr ⟨a :: x, y, rfl⟩
theorem longer_lv {E : List Edg} {n : Int} {k : Nat} {W : AL (Int × List D)} (h : Lv E n k W) : Lv E n (k + 1) (longer E W) := by
  constructor
  · have key : ∀ f : AL (Int × List D), f = longer E W → ∀ i j l p, aget f (i, j) = some (l, p) → ∃ q, Pth E i q j ∧ q.length = k + 1 ∧ len q = l ∧ p = q.map (·.id) := by
      intro f hf
      subst hf
      refine foldl_inv (P := fun f => ∀ i j l p, aget f (i, j) = some (l, p) → ∃ q, Pth E i q j ∧ q.length = k + 1 ∧ len q = l ∧ p = q.map (·.id)) (W.map (·.1)) [] (fun i j l p h => by simp [aget] at h) fun f x hx hP => ?_
      unfold lgS
      split
      · rename_i v hv
        refine foldl_inv (P := fun f => ∀ i j l p, aget f (i, j) = some (l, p) → ∃ q, Pth E i q j ∧ q.length = k + 1 ∧ len q = l ∧ p = q.map (·.id)) E f hP fun f e he hP => ?_
        unfold lgE
        split
        · rename_i hh
          intro i j l p hg
          rw [aget_put] at hg
          split at hg
          · rename_i hx
            cases hx
            cases hg
            obtain ⟨q, q1, q2, q3, q4⟩ := h.1 x.1 x.2 v.1 v.2 hv
            exact ⟨q ++ [e], q1.snoc he hh.1, by simp [q2], by rw [len_snoc, q3], by simp [q4]⟩
          · exact hP i j l p hg
        · exact hP
      · exact hP
    exact key _ rfl
  · intro i j q h0 h1 hq hl
    rcases snoc_cases q with rfl | ⟨a, e, rfl⟩
    · simp at hl
    · obtain ⟨m, c1, c2, c3, c4⟩ := hq.cut
      obtain rfl : e.t = j := c4
      obtain ⟨l, p, w1, w2⟩ := h.2 i m a h0 h1 c1 (by simpa using hl)
      have : Cm i e.t (l + e.w) (longer E W) := by
        refine foldl_has (x := (i, m)) (W.map (·.1)) [] (mem_aget w1) (fun f => ?_) fun f x c => lgS_cm c
        unfold lgS
        simp only [w1]
        refine foldl_has (x := e) E f c2 (fun f => ?_) fun f x c => lgE_cm c
        have := lgE_new (l := l) (s := i) (p := p) (f := f) (e := e)
        rw [c3] at this
        exact this
      obtain ⟨l', p', u1, u2⟩ := this
      exact ⟨l', p', u1, by rw [len_snoc]; omega⟩
end Bide

set_option pp.maxSteps 400
set_option autoImplicit false
set_option linter.all false
set_option maxRecDepth 100000
set_option maxHeartbeats 4000000
/-! The program's rounds, shortest walks and bounds. -/
namespace Bide
open PySem
/-! ### tables -/
def w0L (l : List Nat) : AL (Int × List D) := l.foldl (fun w (i : Nat) => aput w ((i : Int), (i : Int)) (0, [])) []
def W0 (n : Int) : AL (Int × List D) := w0L (List.range n.toNat)
theorem w0_get (l : List Nat) (a b : Int) : ∀ w : AL (Int × List D), aget (l.foldl (fun w (i : Nat) => aput w ((i : Int), (i : Int)) (0, [])) w) (a, b) = if a = b ∧ ∃ i ∈ l, (i : Int) = a then some (0, []) else aget w (a, b) := by
  induction l with
  | nil => intro w; simp
  | cons i l ih =>
    intro w
    rw [List.foldl_cons, ih, aget_put]
    by_cases h : a = b
    · subst h
      by_cases h2 : ∃ j ∈ l, (j : Int) = a
      · rw [if_pos ⟨rfl, h2⟩, if_pos ⟨rfl, by obtain ⟨j, q, e⟩ := h2; exact ⟨j, by simp [q], e⟩⟩]
      · rw [if_neg (fun z => h2 z.2)]
        by_cases h3 : (i : Int) = a
        · rw [if_pos (by rw [h3]), if_pos ⟨rfl, i, by simp, h3⟩]
        · rw [if_neg (by simp [h3]), if_neg]
          rintro ⟨_, j, q, e⟩
          rcases List.mem_cons.mp q with rfl | q
          · exact h3 e
          · exact h2 ⟨j, q, e⟩
    · rw [if_neg (fun z => h z.1), if_neg (fun z => h (by cases z; rfl)), if_neg (fun z => h z.1)]
theorem W0_get {n : Int} (a b : Int) : aget (W0 n) (a, b) = if a = b ∧ 0 ≤ a ∧ a < n then some (0, []) else none := by
  unfold W0 w0L
  rw [w0_get]
  by_cases h : a = b ∧ 0 ≤ a ∧ a < n
  · rw [if_pos h, if_pos ⟨h.1, a.toNat, by simp; omega, by omega⟩]
  · rw [if_neg h, if_neg]
    · rfl
    · rintro ⟨h1, i, h2, h3⟩
      simp at h2
      exact h ⟨h1, by omega, by omega⟩
theorem W0_lv (E : List Edg) (n : Int) : Lv E n 0 (W0 n) := by
  constructor
  · intro i j l p h
    rw [W0_get] at h
    split at h <;> cases h
    rename_i hh
    exact ⟨[], hh.1, rfl, rfl, rfl⟩
  · intro i j q h0 h1 h hq
    have : q = [] := List.length_eq_zero_iff.mp hq
    subst this
    cases h
    exact ⟨0, [], by rw [W0_get, if_pos ⟨rfl, h0, h1⟩], Int.le_refl _⟩
def itW (E : List Edg) (n : Int) : Nat → AL (Int × List D)
  | 0 => W0 n
  | k + 1 => longer E (itW E n k)
section
variable {E : List Edg} {n : Int}
theorem itW_lv : ∀ k, Lv E n k (itW E n k)
  | 0 => W0_lv E n
  | k + 1 => longer_lv (itW_lv k)
end
/-! ### shortest walks -/
end Bide

set_option pp.maxSteps 400
set_option autoImplicit false
set_option linter.all false
set_option maxRecDepth 100000
set_option maxHeartbeats 4000000
/-! Shortest walks, bounds; the law's bounds. -/
namespace Bide
open PySem
/-- walks of at most t edges, the least for each two events -/
def Bst (E : List Edg) (n : Int) (t : Nat) (B : AL (Int × List D)) : Prop := (∀ i j l p, aget B (i, j) = some (l, p) → ∃ q, Pth E i q j ∧ q.length ≤ t ∧ len q = l ∧ p = q.map (·.id)) ∧
  ∀ i j q, 0 ≤ i → i < n → Pth E i q j → q.length ≤ t → ∃ l p, aget B (i, j) = some (l, p) ∧ l ≤ len q
def mrg : Option (Int × List D) → Option (Int × List D) → Option (Int × List D)
  | none, y => y
  | some b, none => some b
  | some b, some w => if w.1 < b.1 then some w else some b
theorem bst0 (E : List Edg) (n : Int) : Bst E n 0 (W0 n) := by
  obtain ⟨h1, h2⟩ := W0_lv E n
  exact ⟨fun i j l p h => by obtain ⟨q, a, b, c⟩ := h1 i j l p h; exact ⟨q, a, by omega, c⟩, fun i j q a b c d => h2 i j q a b c (by omega)⟩
theorem bst_mrg {E : List Edg} {n : Int} {t : Nat} {B W B' : AL (Int × List D)} (hB : Bst E n t B) (hW : Lv E n (t + 1) W) (h : ∀ k, aget B' k = mrg (aget B k) (aget W k)) : Bst E n (t + 1) B' := by
  constructor
  · intro i j l p hg
    rw [h] at hg
    cases hb : aget B (i, j) with
    | none =>
      rw [hb] at hg
      obtain ⟨q, a, b, c⟩ := hW.1 i j l p hg
      exact ⟨q, a, by omega, c⟩
    | some u =>
      have ub := hB.1 i j u.1 u.2 hb
      cases hw : aget W (i, j) with
      | none =>
        rw [hb, hw] at hg
        simp only [mrg] at hg
        cases hg
        obtain ⟨q, a, b, c⟩ := ub
        exact ⟨q, a, by omega, c⟩
      | some v =>
        rw [hb, hw] at hg
        simp only [mrg] at hg
        split at hg
        · cases hg
          obtain ⟨q, a, b, c⟩ := hW.1 i j l p hw
          exact ⟨q, a, by omega, c⟩
        · cases hg
          obtain ⟨q, a, b, c⟩ := ub
          exact ⟨q, a, by omega, c⟩
  · intro i j q h0 h1 hq hl
    rw [h]
    by_cases hle : q.length ≤ t
    · obtain ⟨l, p, w1, w2⟩ := hB.2 i j q h0 h1 hq hle
      cases hw : aget W (i, j) with
      | none => exact ⟨l, p, by rw [w1]; rfl, w2⟩
      | some v =>
        rw [w1]
        simp only [mrg]
        split
        · rename_i hh
          exact ⟨v.1, v.2, rfl, by omega⟩
        · exact ⟨l, p, rfl, w2⟩
    · obtain ⟨l, p, w1, w2⟩ := hW.2 i j q h0 h1 hq (by omega)
      cases hb : aget B (i, j) with
      | none => exact ⟨l, p, by rw [w1]; rfl, w2⟩
      | some u =>
        rw [w1]
        simp only [mrg]
        split
        · exact ⟨l, p, rfl, w2⟩
        · rename_i hh
          exact ⟨u.1, u.2, rfl, by omega⟩
end Bide

set_option pp.maxSteps 400
set_option autoImplicit false
set_option linter.all false
set_option maxRecDepth 100000
set_option maxHeartbeats 4000000
/-! Bounds: the program's rows, the law's table. -/
namespace Bide
open PySem
open Classical in
/-- the tight bound of two events -/
noncomputable def bd (E : List Edg) (i j : Int) : Option Int := if h : ∃ o, Dist E i j o then Classical.choose h else none
theorem bd_eq {E : List Edg} {i j : Int} {o : Option Int} (h : Dist E i j o) : bd E i j = o := by
  have hx : ∃ o, Dist E i j o := ⟨o, h⟩
  unfold bd
  rw [dif_pos hx]
  exact (Classical.choose_spec hx).uniq h
theorem Bst.dist {E : List Edg} {n : Int} {t : Nat} {B : AL (Int × List D)} (hB : Bst E n t B) (hE : Ends E n) (hN : NoNeg E n) (ht : n ≤ t + 1) {i j : Int} (h0 : 0 ≤ i) (h1 : i < n) : Dist E i j ((aget B (i, j)).map (·.1)) := by
  refine DistLe.dist hE hN h0 h1 ht ?_
  cases h : aget B (i, j) with
  | none =>
    intro p hp hh
    obtain ⟨l, q, w1, _⟩ := hB.2 i j p h0 h1 hh hp
    rw [h] at w1; cases w1
  | some v =>
    obtain ⟨q, a, b, c, d⟩ := hB.1 i j v.1 v.2 h
    refine ⟨⟨q, a, c⟩, fun p hp hh => ?_⟩
    obtain ⟨l, q, w1, w2⟩ := hB.2 i j p h0 h1 hh hp
    rw [h] at w1
    cases w1
    exact w2
theorem bd_dist {E : List Edg} {n : Int} (hE : Ends E n) (hN : NoNeg E n) {i j : Int} (h0 : 0 ≤ i) (h1 : i < n) : Dist E i j (bd E i j) := by
  have hb : ∃ B, Bst E n n.toNat B := by
    have key : ∀ t : Nat, ∃ B, Bst E n t B := by
      intro t
      induction t with
      | zero => exact ⟨W0 n, bst0 E n⟩
      | succ t ih =>
        obtain ⟨B, hB⟩ := ih
        -- the table that holds what merging gives
        let W := itW E n (t + 1)
        refine ⟨(B.map (·.1) ++ W.map (·.1)).foldl (fun w k => match mrg (aget B k) (aget W k) with
          | some v => aput w k v
          | none => w) [], bst_mrg hB (itW_lv (t + 1)) fun k => ?_⟩
        have gen : ∀ (ks : List (Int × Int)) (w : AL (Int × List D)), aget (ks.foldl (fun w k => match mrg (aget B k) (aget W k) with
          | some v => aput w k v
          | none => w) w) k = if k ∈ ks ∧ (mrg (aget B k) (aget W k)).isSome = true then mrg (aget B k) (aget W k) else aget w k := by
          intro ks
          induction ks with
          | nil => intro w; simp
          | cons x ks ih =>
            intro w
            rw [List.foldl_cons, ih]
            by_cases hx : x = k
            · subst hx
              cases hb : mrg (aget B x) (aget W x) with
              | none => simp
              | some v => simp [aget_put]
            · have hx' : k ≠ x := Ne.symm hx
              have : aget (match mrg (aget B x) (aget W x) with
                | some v => aput w x v
                | none => w) k = aget w k := by
                split
                · rw [aget_put, if_neg hx]
                · rfl
              rw [this]
              simp [hx']
        rw [gen]
        cases hm : mrg (aget B k) (aget W k) with
        | none => simp [aget]
        | some v =>
          have : k ∈ B.map (·.1) ++ W.map (·.1) := by
            cases hb : aget B k with
            | some u => exact List.mem_append_left _ (mem_aget hb)
            | none =>
              rw [hb] at hm
              exact List.mem_append_right _ (mem_aget hm)
          rw [if_pos ⟨this, rfl⟩]
    exact key _
  obtain ⟨B, hB⟩ := hb
  have := hB.dist hE hN (by omega) h0 h1 (j := j)
  rw [bd_eq this]
  exact this
/-! ### the law's bounds, by edges again and again -/
def Mon (B C : AL Int) : Prop := ∀ k l, aget B k = some l → ∃ l', aget C k = some l' ∧ l' ≤ l
theorem Mon.refl (B : AL Int) : Mon B B := fun k l h => ⟨l, h, Int.le_refl _⟩
theorem Mon.trans {B C X : AL Int} (h : Mon B C) (k : Mon C X) : Mon B X := fun x l e => by
  obtain ⟨l', a, b⟩ := h x l e
  obtain ⟨l2, c, d⟩ := k x l' a
  exact ⟨l2, c, by omega⟩
end Bide

set_option pp.maxSteps 400
set_option autoImplicit false
set_option linter.all false
set_option maxRecDepth 100000
set_option maxHeartbeats 4000000
/-! Heights moved by news; the law's drawn nets that two rows of times keep. -/
namespace Bide
open PySem
/-! ### rules that times keep -/
/-! ### news -/
structure RowOk (n : Int) (r : List (Int × Int)) : Prop where
  len : r.length ≤ 8
  ev : ∀ p ∈ r, (0 ≤ p.1 ∧ p.1 < n) ∧ -500 ≤ p.2 ∧ p.2 ≤ 500
theorem all_tt {α : Type} (l : List α) : (l.all fun _ => true) = true := by simp
/-! ### heights moved -/
def lows (b : Int → Int → Option Int) (row : List (Int × Int)) (e : Int) : List Int := (row.filter fun p => (b e p.1).isSome).map fun p => p.2 - (b e p.1).getD 0
def highs (b : Int → Int → Option Int) (row : List (Int × Int)) (e : Int) : List Int := (row.filter fun p => (b p.1 e).isSome).map fun p => p.2 + (b p.1 e).getD 0
def jt1 (b : Int → Int → Option Int) (row : List (Int × Int)) (e t : Int) : Int := minI (maxI t (lows b row e)) (highs b row e)
def jt (b : Int → Int → Option Int) (ts : List Int) (row : List (Int × Int)) : List Int := (enumL ts).map fun p => jt1 b row p.1 p.2
theorem intsL_map : ∀ l : List Int, intsL (l.map PyData.int) = some l
  | [] => rfl
  | x :: r => by simp [intsL,intsL_map r]
/-- the times behind each piece of news -/
def hs (b : Int → Int → Option Int) (ts : List Int) (row : List (Int × Int)) : List Int × List (List Int) := row.foldl (fun s w => (jt b s.1 [w], s.2 ++ [jt b s.1 [w]])) (ts, [])
end Bide

set_option pp.maxSteps 400
set_option autoImplicit false
set_option linter.all false
set_option maxRecDepth 100000
set_option maxHeartbeats 4000000
/-! The law's drawn nets that two rows of times keep; its rows; what heights moved keep. -/
namespace Bide
open PySem
theorem tm_mem {ts : List Int} {i n : Int} (h0 : 0 ≤ i) (h1 : i < n) (hl : (ts.length : Int) = n) : tm ts i ∈ ts := by
  have hl : i.toNat < ts.length := by omega
  unfold tm
  rw [List.getD_eq_getElem?_getD, List.getElem?_eq_getElem hl]
  exact List.getElem_mem hl
/-- a net that two rows of times keep -/
structure Two (n : Int) (rs : List Rul) (t1 t2 : List Int) : Prop where
  net : NetOk n rs
  l1 : (t1.length : Int) = n
  l2 : (t2.length : Int) = n
  b1 : ∀ t ∈ t1, -18 ≤ t ∧ t ≤ 18
  b2 : ∀ t ∈ t2, -18 ≤ t ∧ t ≤ 18
  p1 : Pot (edgs rs) (tm t1)
  p2 : Pot (edgs rs) (tm t2)
  far : ∀ r ∈ rs, farIn 39 r
/-! ### what heights moved keep -/
theorem minI_le : ∀ (l : List Int) (m : Int), minI m l ≤ m ∧ ∀ x ∈ l, minI m l ≤ x
  | [], m => ⟨Int.le_refl _, fun x h => by cases h⟩
  | y :: r, m => by
    have hz : m ≥ (if y < m then y else m) ∧ y ≥ (if y < m then y else m) := by split <;> omega
    obtain ⟨h1, h2⟩ := minI_le r (if y < m then y else m)
    simp only [minI]
    generalize (if y < m then y else m) = z at hz h1 h2
    refine ⟨by omega, fun x hx => ?_⟩
    rcases List.mem_cons.mp hx with rfl | hx
    · omega
    · exact h2 x hx
section
variable {E : List Edg} {n : Int}
theorem bd_self (hE : Ends E n) (hN : NoNeg E n) {i : Int} (h0 : 0 ≤ i) (h1 : i < n) : bd E i i = some 0 := by
  refine bd_eq (o := some 0) ⟨⟨[], rfl, rfl⟩, fun p hp => hN p i h0 h1 hp⟩
end
theorem gd_times {s : List Int} (h : s.length ≤ 1000) (m : Nat) : gd (m + 2) (timesD s) = true := by
  have : (s.map PyData.int).all (gd (m + 1)) = true := by
    rw [List.all_map, List.all_eq_true]
    intro x _
    rfl
  unfold timesD
  unfold gd
  simp only [List.length_map, this, Bool.and_true, decide_eq_true_eq]
  exact h
end Bide

set_option pp.maxSteps 400
set_option autoImplicit false
set_option linter.all false
set_option maxRecDepth 100000
set_option maxHeartbeats 4000000
/-! Limits of heights behind a row of news. -/
namespace Bide
open PySem
def lowM (b : Int → Int → Option Int) (e : Int) (w : Int × Int) : Option Int := (b e w.1).map (w.2 - ·)
def highM (b : Int → Int → Option Int) (e : Int) (w : Int × Int) : Option Int := (b w.1 e).map (w.2 + ·)
def mx (x : Int) : Option Int → Int
  | none => x
  | some l => if l > x then l else x
def mn (x : Int) : Option Int → Int
  | none => x
  | some h => if h < x then h else x
def clamp (x : Int) (lo hi : Option Int) : Int := mn (mx x lo) hi
/-! ### the law's -/
end Bide

set_option pp.maxSteps 400
set_option autoImplicit false
set_option linter.all false
set_option maxRecDepth 100000
set_option maxHeartbeats 4000000
/-! Limits: order, lengths, heights behind a row. -/
namespace Bide
open PySem
/-! ### lengths -/
/-! ### heights behind a row, by limits -/
def cl (x : Int) (p : Option Int × Option Int) : Int := clamp x p.1 p.2
end Bide

set_option pp.maxSteps 400
set_option autoImplicit false
set_option linter.all false
set_option maxRecDepth 100000
set_option maxHeartbeats 4000000
/-! Bounds by rows of lists, worked out over every third event. -/
namespace Bide
open PySem
def inn (p : List Edg) : List Int := p.dropLast.map (·.t)
theorem inn_cons {e : Edg} {r : List Edg} (h : r ≠ []) : inn (e :: r) = e.t :: inn r := by
  cases r with
  | nil => exact absurd rfl h
  | cons x r => rfl
theorem mid {E : List Edg} {v : Int} : ∀ {p : List Edg} {i j : Int}, Pth E i p j → v ∈ inn p → ∃ b c, p = b ++ c ∧ Pth E i b v ∧ Pth E v c j ∧ inn p = inn b ++ v :: inn c ∧ b ≠ [] ∧ c ≠ []
  | [], i, j, _, h => by simp [inn] at h
  | [e], i, j, _, h => by simp [inn] at h
  | e :: x :: r, i, j, ⟨h1, h2, h3⟩, hv => by
    rw [inn_cons (by simp)] at hv
    by_cases hx : v = e.t
    · subst hx
      exact ⟨[e], x :: r, rfl, ⟨h1, h2, rfl⟩, h3, inn_cons (by simp), by simp, by simp⟩
    · have hv' : v ∈ inn (x :: r) := (List.mem_cons.mp hv).resolve_left hx
      obtain ⟨b, c, e1, e2, e3, e4, e5, e6⟩ := mid h3 hv'
      refine ⟨e :: b, c, by rw [e1]; rfl, ⟨h1, h2, e2⟩, e3, ?_, by simp, e6⟩
      rw [inn_cons (by simp), e4, inn_cons e5]
      rfl
theorem Pth.mem {E : List Edg} : ∀ {p : List Edg} {i j : Int}, Pth E i p j → ∀ e ∈ p, e ∈ E
  | [], i, j, _, e, h => by cases h
  | x :: p, i, j, ⟨h1, h2, h3⟩, e, h => by
    rcases List.mem_cons.mp h with rfl | h
    · exact h1
    · exact h3.mem e h
/-! ### the table of numbers -/
abbrev TB := Int → Int → Option Int
def upd (d : TB) (i j : Int) (v : Option Int) : TB := fun x y => if x = i ∧ y = j then v else d x y
theorem upd_at (d : TB) (i j : Int) (v : Option Int) : upd d i j v i j = v := if_pos ⟨rfl, rfl⟩
theorem upd_ne {d : TB} {i j x y : Int} {v : Option Int} (h : ¬ (x = i ∧ y = j)) : upd d i j v x y = d x y := if_neg h
theorem upd_same {d : TB} {i j : Int} {v : Option Int} (h : v = d i j) : upd d i j v = d := by
  funext x y
  by_cases hh : x = i ∧ y = j
  · rw [hh.1, hh.2, upd_at, h]
  · rw [upd_ne hh]
def lst : Option Int → Option Int → Option Int
  | none, y => y
  | some x, none => some x
  | some x, some y => some (if y < x then y else x)
def sm : Option Int → Option Int → Option Int
  | some x, some y => some (x + y)
  | _, _ => none
/-! ### the rows of the table -/
end Bide

set_option pp.maxSteps 400
set_option autoImplicit false
set_option linter.all false
set_option maxRecDepth 100000
set_option maxHeartbeats 4000000
/-! Steps of news: what commutes; the law's drawn news and steps. -/
namespace Bide
open PySem
def pr2 (k : Int × Int) : D := .tuple [.int k.1, .int k.2]
def rwD (r : List (Int × Int)) : D := .tuple (r.map pr2)
abbrev Stp := Bool × Int × Int
def wrd : Bool → D
  | true => .str (Str.ofString "raise")
  | false => .str (Str.ofString "lower")
def stD (s : Stp) : D := .tuple [wrd s.1, .int s.2.1, .int s.2.2]
theorem wrd_t : wrd true = .str (Str.ofString "raise") := rfl
theorem wrd_f : wrd false = .str (Str.ofString "lower") := rfl
theorem wrd_eq (a b : Bool) : cop .eq (wrd a) (wrd b) = some (decide (a = b)) := by cases a <;> cases b <;> decide +kernel
theorem wrd_in (a : Bool) : dIn (wrd a) (.tuple [wrd true, wrd false]) = some true := by cases a <;> decide +kernel
structure FreeOk (r : List (Int × Int)) : Prop where
  len : r.length ≤ 8
  ev : ∀ p ∈ r, (0 ≤ p.1 ∧ p.1 ≤ 5) ∧ -500 ≤ p.2 ∧ p.2 ≤ 500
structure StpOk (s : Stp) : Prop where
  e0 : 0 ≤ s.2.1
  e5 : s.2.1 ≤ 5
  t0 : -500 ≤ s.2.2
  t1 : s.2.2 ≤ 500
theorem preL {α : Type} {as pre suf : List α} {a : α} (h : as = pre ++ a :: suf) : pre.length < as.length ∧ a ∈ as := by rw [h]; simp
theorem rng0 (n : Nat) : rngD 0 n = (List.range n).map fun (i : Nat) => (.int (i : Int) : D) := by
  rw [rngD_map]
  apply List.map_congr_left
  intro i _
  simp
def Sp_isint2 (F : Fn) : Prop := F.io = [false] ∧ ∀ i : Int, F.run [.int i] = .ok (.v (.bool true)) []
theorem isint2_ok (c : Cf) : Sp_isint2 (D_is_integer.fn c) := ⟨rfl, fun i => by simp [Def.fn,mkF,runF,startE,zAa,zAb,zAc,zAd,zAe,zAf,zAg,zAh,zAi,zAj,zAk,zAl,zAm,zAn,zAo,zAp,zAq,zAr,zAs,zAt,zAu,zAv,zAw,zAx,zAy,zAz,zA0,zA1,zA2,zA3,zA4,zA5,zA6,zA7,zA8,zA9,zBa,zBb,zBc,zBd,zBe,zBf,zBg,zBh,zBi,zBj,zBk,zBl,zBm,zBn,zBo,zBp,zBq,zBr,zBs,zBt,zBu,zBv,zBw,zBx,zBy,zBz,zB0,zB1,zB2,zB3,zB4,zB5,zB6,zB7,zB8,zB9,zCa,zCb,R.bind,OV.val,rd,stl,esc,escs,rds,isTy,truT_n,truT_b,truT_i,truT_l,truT_t,truT_s,truT_d,zCc,zCd,zCe,zCf,zCg,zCh,zCi,zCj,zCk,zCl,zCm,zCn,zCo,zCp,zCq,zCr,zCs,zCt,zCu,bop,blt,zCv,zCw,zCx,zCy,zCz,zC0,zC1,zC2,zC3,R.of,outsE,retR,putR,setV,setVs,bindTg,lend,giveBack,ownL,putL,setAt,slcD,revD,asInt,List.replicate,D_is_integer]⟩
def Sp_evt (F : Fn) : Prop := F.io = [false, false] ∧ ∀ e t : Int, 0 ≤ e → e ≤ 5 → -500 ≤ t → t ≤ 500 → F.run [.int e, .int t] = .ok (.v (.bool true)) []
theorem evt_ok (c : Cf) (h1 : Has c "is_integer" Sp_isint2) (g1 : c.gl "MOST_EVENT" = some (.int 5)) (g2 : c.gl "MOST_TIME" = some (.int 500)) : Sp_evt (D_is_event_time_s.fn c) := by
  obtain ⟨F, h1, hio, hr⟩ := h1
  exact ⟨rfl, fun e t a b d f => by simp [Def.fn,mkF,runF,startE,zAa,zAb,zAc,zAd,zAe,zAf,zAg,zAh,zAi,zAj,zAk,zAl,zAm,zAn,zAo,zAp,zAq,zAr,zAs,zAt,zAu,zAv,zAw,zAx,zAy,zAz,zA0,zA1,zA2,zA3,zA4,zA5,zA6,zA7,zA8,zA9,zBa,zBb,zBc,zBd,zBe,zBf,zBg,zBh,zBi,zBj,zBk,zBl,zBm,zBn,zBo,zBp,zBq,zBr,zBs,zBt,zBu,zBv,zBw,zBx,zBy,zBz,zB0,zB1,zB2,zB3,zB4,zB5,zB6,zB7,zB8,zB9,zCa,zCb,R.bind,OV.val,rd,stl,esc,escs,rds,isTy,truT_n,truT_b,truT_i,truT_l,truT_t,truT_s,truT_d,zCc,zCd,zCe,zCf,zCg,zCh,zCi,zCj,zCk,zCl,zCm,zCn,zCo,zCp,zCq,zCr,zCs,zCt,zCu,bop,blt,zCv,zCw,zCx,zCy,zCz,zC0,zC1,zC2,zC3,R.of,outsE,retR,putR,setV,setVs,bindTg,lend,giveBack,ownL,putL,setAt,slcD,revD,asInt,List.replicate,D_is_event_time_s,h1,hio,hr,g1,g2,a,b,d,f]⟩
def Sp_free (F : Fn) : Prop := F.io = [false] ∧ ∀ r, FreeOk r → F.run [rwD r] = .ok (.v (.bool true)) []
theorem allTT {α : Type} (l : List α) : (l.all fun _ => true) = true := by simp
theorem free_ok (c : Cf) (h1 : Has c "is_event_time" Sp_evt) (g : c.gl "MOST_NEWS" = some (.int 8)) : Sp_free (D_is_free_row.fn c) := by
  obtain ⟨F, h1, hio, hr⟩ := h1
  refine ⟨rfl, fun r ok => run_eq rfl ?_⟩
  have hl := ok.len
  have hl' : ¬ (8 : Int) < (r.length : Int) := by omega
  simp only [D_is_free_row]
  refine zDh (by simp [Def.fn,mkF,runF,startE,zAa,zAb,zAc,zAd,zAe,zAf,zAg,zAh,zAi,zAj,zAk,zAl,zAm,zAn,zAo,zAp,zAq,zAr,zAs,zAt,zAu,zAv,zAw,zAx,zAy,zAz,zA0,zA1,zA2,zA3,zA4,zA5,zA6,zA7,zA8,zA9,zBa,zBb,zBc,zBd,zBe,zBf,zBg,zBh,zBi,zBj,zBk,zBl,zBm,zBn,zBo,zBp,zBq,zBr,zBs,zBt,zBu,zBv,zBw,zBx,zBy,zBz,zB0,zB1,zB2,zB3,zB4,zB5,zB6,zB7,zB8,zB9,zCa,zCb,R.bind,OV.val,rd,stl,esc,escs,rds,isTy,truT_n,truT_b,truT_i,truT_l,truT_t,truT_s,truT_d,zCc,zCd,zCe,zCf,zCg,zCh,zCi,zCj,zCk,zCl,zCm,zCn,zCo,zCp,zCq,zCr,zCs,zCt,zCu,bop,blt,zCv,zCw,zCx,zCy,zCz,zC0,zC1,zC2,zC3,R.of,outsE,retR,putR,zC4,zC5,zC6,zC7,zC8,setVs,bindTg,lend,giveBack,ownL,putL,setAt,slcD,revD,asInt,List.replicate,rwD,g,hl,hl']; first | first | done | rfl | exact ⟨rfl, rfl⟩ | (constructor <;> rfl) | exact ⟨by omega, rfl⟩) (zDg ?_)
  have hc := ev_lcgn (c := c) (own := [1]) (tg := [1]) (tup := false) (it := .seq (.var 0)) (e := .and (.isi (.var 1) .tuple) (.and (.cmp .eq (.blt .len (.cons (.var 1) .nil)) (.int 2)) (.call "is_event_time" (.cons (.idx (.var 1) (.int 0)) (.cons (.idx (.var 1) (.int 1)) .nil)))))
    (ev := [.sh (.tuple (r.map pr2)), .no]) (e1 := [.sh (.tuple (r.map pr2)), .no]) (w0 := [.sh (.tuple (r.map pr2)), .no]) (as := r) (enc := pr2) (g := fun _ => .bool true)
    (by simp [Def.fn,mkF,runF,startE,zAa,zAb,zAc,zAd,zAe,zAf,zAg,zAh,zAi,zAj,zAk,zAl,zAm,zAn,zAo,zAp,zAq,zAr,zAs,zAt,zAu,zAv,zAw,zAx,zAy,zAz,zA0,zA1,zA2,zA3,zA4,zA5,zA6,zA7,zA8,zA9,zBa,zBb,zBc,zBd,zBe,zBf,zBg,zBh,zBi,zBj,zBk,zBl,zBm,zBn,zBo,zBp,zBq,zBr,zBs,zBt,zBu,zBv,zBw,zBx,zBy,zBz,zB0,zB1,zB2,zB3,zB4,zB5,zB6,zB7,zB8,zB9,zCa,zCb,R.bind,OV.val,rd,stl,esc,escs,rds,isTy,truT_n,truT_b,truT_i,truT_l,truT_t,truT_s,truT_d,zCc,zCd,zCe,zCf,zCg,zCh,zCi,zCj,zCk,zCl,zCm,zCn,zCo,zCp,zCq,zCr,zCs,zCt,zCu,bop,blt,zCv,zCw,zCx,zCy,zCz,zC0,zC1,zC2,zC3,R.of,outsE,retR,putR,zC4,zC5,zC6,zC7,zC8,setVs,bindTg,lend,giveBack,ownL,putL,setAt,slcD,revD,asInt,List.replicate,seqOf]) rfl rfl (fun p hp => ⟨[.sh (.tuple (r.map pr2)), .sh (pr2 p)], by simp [Def.fn,mkF,runF,startE,zAa,zAb,zAc,zAd,zAe,zAf,zAg,zAh,zAi,zAj,zAk,zAl,zAm,zAn,zAo,zAp,zAq,zAr,zAs,zAt,zAu,zAv,zAw,zAx,zAy,zAz,zA0,zA1,zA2,zA3,zA4,zA5,zA6,zA7,zA8,zA9,zBa,zBb,zBc,zBd,zBe,zBf,zBg,zBh,zBi,zBj,zBk,zBl,zBm,zBn,zBo,zBp,zBq,zBr,zBs,zBt,zBu,zBv,zBw,zBx,zBy,zBz,zB0,zB1,zB2,zB3,zB4,zB5,zB6,zB7,zB8,zB9,zCa,zCb,R.bind,OV.val,rd,stl,esc,escs,rds,isTy,truT_n,truT_b,truT_i,truT_l,truT_t,truT_s,truT_d,zCc,zCd,zCe,zCf,zCg,zCh,zCi,zCj,zCk,zCl,zCm,zCn,zCo,zCp,zCq,zCr,zCs,zCt,zCu,bop,blt,zCv,zCw,zCx,zCy,zCz,zC0,zC1,zC2,zC3,R.of,outsE,retR,putR,zC4,zC5,zC6,zC7,zC8,setVs,bindTg,lend,giveBack,ownL,putL,setAt,slcD,revD,asInt,List.replicate], rfl, rfl, _, by simp [Def.fn,mkF,runF,startE,zAa,zAb,zAc,zAd,zAe,zAf,zAg,zAh,zAi,zAj,zAk,zAl,zAm,zAn,zAo,zAp,zAq,zAr,zAs,zAt,zAu,zAv,zAw,zAx,zAy,zAz,zA0,zA1,zA2,zA3,zA4,zA5,zA6,zA7,zA8,zA9,zBa,zBb,zBc,zBd,zBe,zBf,zBg,zBh,zBi,zBj,zBk,zBl,zBm,zBn,zBo,zBp,zBq,zBr,zBs,zBt,zBu,zBv,zBw,zBx,zBy,zBz,zB0,zB1,zB2,zB3,zB4,zB5,zB6,zB7,zB8,zB9,zCa,zCb,R.bind,OV.val,rd,stl,esc,escs,rds,isTy,truT_n,truT_b,truT_i,truT_l,truT_t,truT_s,truT_d,zCc,zCd,zCe,zCf,zCg,zCh,zCi,zCj,zCk,zCl,zCm,zCn,zCo,zCp,zCq,zCr,zCs,zCt,zCu,bop,blt,zCv,zCw,zCx,zCy,zCz,zC0,zC1,zC2,zC3,R.of,outsE,retR,putR,zC4,zC5,zC6,zC7,zC8,setVs,bindTg,lend,giveBack,ownL,putL,setAt,slcD,revD,asInt,List.replicate,pr2,h1,hio,hr p.1 p.2 (ok.ev p hp).1.1 (ok.ev p hp).1.2 (ok.ev p hp).2.1 (ok.ev p hp).2.2]; first | done | rfl | exact ⟨rfl, rfl⟩ | (constructor <;> rfl), by simp [Def.fn,mkF,runF,startE,zAa,zAb,zAc,zAd,zAe,zAf,zAg,zAh,zAi,zAj,zAk,zAl,zAm,zAn,zAo,zAp,zAq,zAr,zAs,zAt,zAu,zAv,zAw,zAx,zAy,zAz,zA0,zA1,zA2,zA3,zA4,zA5,zA6,zA7,zA8,zA9,zBa,zBb,zBc,zBd,zBe,zBf,zBg,zBh,zBi,zBj,zBk,zBl,zBm,zBn,zBo,zBp,zBq,zBr,zBs,zBt,zBu,zBv,zBw,zBx,zBy,zBz,zB0,zB1,zB2,zB3,zB4,zB5,zB6,zB7,zB8,zB9,zCa,zCb,R.bind,OV.val,rd,stl,esc,escs,rds,isTy,truT_n,truT_b,truT_i,truT_l,truT_t,truT_s,truT_d,zCc,zCd,zCe,zCf,zCg,zCh,zCi,zCj,zCk,zCl,zCm,zCn,zCo,zCp,zCq,zCr,zCs,zCt,zCu,bop,blt,zCv,zCw,zCx,zCy,zCz,zC0,zC1,zC2,zC3,R.of,outsE,retR,putR,zC4,zC5,zC6,zC7,zC8,setVs,bindTg,lend,giveBack,ownL,putL,setAt,slcD,revD,asInt,List.replicate]⟩)
  refine zDj (by simp [Def.fn,mkF,runF,startE,zAa,zAb,zAc,zAd,zAe,zAf,zAg,zAh,zAi,zAj,zAk,zAl,zAm,zAn,zAo,zAp,zAq,zAr,zAs,zAt,zAu,zAv,zAw,zAx,zAy,zAz,zA0,zA1,zA2,zA3,zA4,zA5,zA6,zA7,zA8,zA9,zBa,zBb,zBc,zBd,zBe,zBf,zBg,zBh,zBi,zBj,zBk,zBl,zBm,zBn,zBo,zBp,zBq,zBr,zBs,zBt,zBu,zBv,zBw,zBx,zBy,zBz,zB0,zB1,zB2,zB3,zB4,zB5,zB6,zB7,zB8,zB9,zCa,zCb,R.bind,OV.val,rd,stl,esc,escs,rds,isTy,truT_n,truT_b,truT_i,truT_l,truT_t,truT_s,truT_d,zCc,zCd,zCe,zCf,zCg,zCh,zCi,zCj,zCk,zCl,zCm,zCn,zCo,zCp,zCq,zCr,zCs,zCt,zCu,bop,blt,zCv,zCw,zCx,zCy,zCz,zC0,zC1,zC2,zC3,R.of,outsE,retR,putR,zC4,zC5,zC6,zC7,zC8,setVs,bindTg,lend,giveBack,ownL,putL,setAt,slcD,revD,asInt,List.replicate,hc,bls_true,allTT]; first | done | rfl | exact ⟨rfl, rfl⟩ | (constructor <;> rfl)) (by simp [Def.fn,mkF,runF,startE,zAa,zAb,zAc,zAd,zAe,zAf,zAg,zAh,zAi,zAj,zAk,zAl,zAm,zAn,zAo,zAp,zAq,zAr,zAs,zAt,zAu,zAv,zAw,zAx,zAy,zAz,zA0,zA1,zA2,zA3,zA4,zA5,zA6,zA7,zA8,zA9,zBa,zBb,zBc,zBd,zBe,zBf,zBg,zBh,zBi,zBj,zBk,zBl,zBm,zBn,zBo,zBp,zBq,zBr,zBs,zBt,zBu,zBv,zBw,zBx,zBy,zBz,zB0,zB1,zB2,zB3,zB4,zB5,zB6,zB7,zB8,zB9,zCa,zCb,R.bind,OV.val,rd,stl,esc,escs,rds,isTy,truT_n,truT_b,truT_i,truT_l,truT_t,truT_s,truT_d,zCc,zCd,zCe,zCf,zCg,zCh,zCi,zCj,zCk,zCl,zCm,zCn,zCo,zCp,zCq,zCr,zCs,zCt,zCu,bop,blt,zCv,zCw,zCx,zCy,zCz,zC0,zC1,zC2,zC3,R.of,outsE,retR,putR,zC4,zC5,zC6,zC7,zC8,setVs,bindTg,lend,giveBack,ownL,putL,setAt,slcD,revD,asInt,List.replicate]; first | done | rfl | exact ⟨rfl, rfl⟩ | (constructor <;> rfl)) ?_
  exact ⟨[], rfl, rfl, rfl⟩
def comm (a b : Stp) : Bool := if a.1 = b.1 then true else if a.1 = true then decide (a.2.1 = b.2.1) && decide (a.2.2 ≤ b.2.2) else decide (b.2.1 = a.2.1) && decide (b.2.2 ≤ a.2.2)
def Sp_do (F : Fn) : Prop := F.io = [false, false] ∧ ∀ a b : Stp, F.run [stD a, stD b] = .ok (.v (.bool (comm a b))) []
theorem do_ok (c : Cf) : Sp_do (D_do_commute.fn c) := by
  refine ⟨rfl, fun a b => ?_⟩
  obtain ⟨x, e, t⟩ := a
  obtain ⟨y, f, u⟩ := b
  by_cases hxy : x = y
  · subst hxy
    simp [Def.fn,mkF,runF,startE,zAa,zAb,zAc,zAd,zAe,zAf,zAg,zAh,zAi,zAj,zAk,zAl,zAm,zAn,zAo,zAp,zAq,zAr,zAs,zAt,zAu,zAv,zAw,zAx,zAy,zAz,zA0,zA1,zA2,zA3,zA4,zA5,zA6,zA7,zA8,zA9,zBa,zBb,zBc,zBd,zBe,zBf,zBg,zBh,zBi,zBj,zBk,zBl,zBm,zBn,zBo,zBp,zBq,zBr,zBs,zBt,zBu,zBv,zBw,zBx,zBy,zBz,zB0,zB1,zB2,zB3,zB4,zB5,zB6,zB7,zB8,zB9,zCa,zCb,R.bind,OV.val,rd,stl,esc,escs,rds,isTy,truT_n,truT_b,truT_i,truT_l,truT_t,truT_s,truT_d,zCc,zCd,zCe,zCf,zCg,zCh,zCi,zCj,zCk,zCl,zCm,zCn,zCo,zCp,zCq,zCr,zCs,zCt,zCu,bop,blt,zCv,zCw,zCx,zCy,zCz,zC0,zC1,zC2,zC3,R.of,outsE,retR,putR,setV,setVs,bindTg,lend,giveBack,ownL,putL,setAt,slcD,revD,asInt,List.replicate,D_do_commute,stD,wrd_eq,comm]
  · have hr : ∀ b, cop .eq (wrd b) (.str (Str.ofString "raise")) = some (decide (b = true)) := fun b => wrd_eq b true
    cases x
    · by_cases h : f = e <;> simp [Def.fn,mkF,runF,startE,zAa,zAb,zAc,zAd,zAe,zAf,zAg,zAh,zAi,zAj,zAk,zAl,zAm,zAn,zAo,zAp,zAq,zAr,zAs,zAt,zAu,zAv,zAw,zAx,zAy,zAz,zA0,zA1,zA2,zA3,zA4,zA5,zA6,zA7,zA8,zA9,zBa,zBb,zBc,zBd,zBe,zBf,zBg,zBh,zBi,zBj,zBk,zBl,zBm,zBn,zBo,zBp,zBq,zBr,zBs,zBt,zBu,zBv,zBw,zBx,zBy,zBz,zB0,zB1,zB2,zB3,zB4,zB5,zB6,zB7,zB8,zB9,zCa,zCb,R.bind,OV.val,rd,stl,esc,escs,rds,isTy,truT_n,truT_b,truT_i,truT_l,truT_t,truT_s,truT_d,zCc,zCd,zCe,zCf,zCg,zCh,zCi,zCj,zCk,zCl,zCm,zCn,zCo,zCp,zCq,zCr,zCs,zCt,zCu,bop,blt,zCv,zCw,zCx,zCy,zCz,zC0,zC1,zC2,zC3,R.of,outsE,retR,putR,setV,setVs,bindTg,lend,giveBack,ownL,putL,setAt,slcD,revD,asInt,List.replicate,D_do_commute,stD,wrd_eq,comm,hxy,hr,line,h]
    · by_cases h : e = f <;> simp [Def.fn,mkF,runF,startE,zAa,zAb,zAc,zAd,zAe,zAf,zAg,zAh,zAi,zAj,zAk,zAl,zAm,zAn,zAo,zAp,zAq,zAr,zAs,zAt,zAu,zAv,zAw,zAx,zAy,zAz,zA0,zA1,zA2,zA3,zA4,zA5,zA6,zA7,zA8,zA9,zBa,zBb,zBc,zBd,zBe,zBf,zBg,zBh,zBi,zBj,zBk,zBl,zBm,zBn,zBo,zBp,zBq,zBr,zBs,zBt,zBu,zBv,zBw,zBx,zBy,zBz,zB0,zB1,zB2,zB3,zB4,zB5,zB6,zB7,zB8,zB9,zCa,zCb,R.bind,OV.val,rd,stl,esc,escs,rds,isTy,truT_n,truT_b,truT_i,truT_l,truT_t,truT_s,truT_d,zCc,zCd,zCe,zCf,zCg,zCh,zCi,zCj,zCk,zCl,zCm,zCn,zCo,zCp,zCq,zCr,zCs,zCt,zCu,bop,blt,zCv,zCw,zCx,zCy,zCz,zC0,zC1,zC2,zC3,R.of,outsE,retR,putR,setV,setVs,bindTg,lend,giveBack,ownL,putL,setAt,slcD,revD,asInt,List.replicate,D_do_commute,stD,wrd_eq,comm,hxy,hr,line,h]
def Sp_isstep (F : Fn) : Prop := F.io = [false] ∧ ∀ s : Stp, StpOk s → F.run [stD s] = .ok (.v (.bool true)) []
theorem isstep_ok (c : Cf) (h1 : Has c "is_event_time" Sp_evt) : Sp_isstep (D_is_step.fn c) := by
  obtain ⟨F, h1, o1, r1⟩ := h1
  refine ⟨rfl, fun s ok => ?_⟩
  obtain ⟨b, e, t⟩ := s
  have h := wrd_in b
  have hr := r1 e t ok.e0 ok.e5 ok.t0 ok.t1
  rw [wrd_t, wrd_f] at h
  cases b <;> (simp only [wrd_t, wrd_f] at h; simp [Def.fn,mkF,runF,startE,zAa,zAb,zAc,zAd,zAe,zAf,zAg,zAh,zAi,zAj,zAk,zAl,zAm,zAn,zAo,zAp,zAq,zAr,zAs,zAt,zAu,zAv,zAw,zAx,zAy,zAz,zA0,zA1,zA2,zA3,zA4,zA5,zA6,zA7,zA8,zA9,zBa,zBb,zBc,zBd,zBe,zBf,zBg,zBh,zBi,zBj,zBk,zBl,zBm,zBn,zBo,zBp,zBq,zBr,zBs,zBt,zBu,zBv,zBw,zBx,zBy,zBz,zB0,zB1,zB2,zB3,zB4,zB5,zB6,zB7,zB8,zB9,zCa,zCb,R.bind,OV.val,rd,stl,esc,escs,rds,isTy,truT_n,truT_b,truT_i,truT_l,truT_t,truT_s,truT_d,zCc,zCd,zCe,zCf,zCg,zCh,zCi,zCj,zCk,zCl,zCm,zCn,zCo,zCp,zCq,zCr,zCs,zCt,zCu,bop,blt,zCv,zCw,zCx,zCy,zCz,zC0,zC1,zC2,zC3,R.of,outsE,retR,putR,setV,setVs,bindTg,lend,giveBack,ownL,putL,setAt,slcD,revD,asInt,List.replicate,D_is_step,stD,wrd_t,wrd_f,h,line,h1,o1,hr])
end Bide

set_option pp.maxSteps 400
set_option autoImplicit false
set_option linter.all false
set_option maxRecDepth 100000
set_option maxHeartbeats 4000000
/-! Walks as the program writes them (allbide.nets), and the law's. -/
namespace Bide
open PySem
def walkD (p : List Edg) : D := .tuple (p.map (·.id))
/-- an edge of a net, by its rule -/
def EdgAt (rs : List Rul) (e : Edg) : Prop := ∃ (k : Nat) (r : Rul), rs[k]? = some r ∧ ((∃ x, r.hi = some x ∧ e = ⟨.tuple [.int k, hiN], r.s, r.e, x⟩) ∨ ∃ x, r.lo = some x ∧ e = ⟨.tuple [.int k, loN], r.e, r.s, 0 - x⟩)
theorem edg_at {rs : List Rul} {e : Edg} (h : e ∈ edgs rs) : EdgAt rs e := by
  obtain ⟨p, hp, hep⟩ := List.mem_flatMap.mp h
  refine ⟨p.1, p.2, (enumL_mem hp).1, ?_⟩
  unfold edgR at hep
  rcases List.mem_append.mp hep with hh | hh
  · cases hq : p.2.hi with
    | none => rw [hq] at hh; cases hh
    | some x =>
      rw [hq] at hh
      simp only [List.mem_singleton] at hh
      exact .inl ⟨x, rfl, hh⟩
  · cases hq : p.2.lo with
    | none => rw [hq] at hh; cases hh
    | some x =>
      rw [hq] at hh
      simp only [List.mem_singleton] at hh
      exact .inr ⟨x, rfl, hh⟩
end Bide

set_option pp.maxSteps 400
set_option autoImplicit false
set_option linter.all false
set_option maxRecDepth 100000
set_option maxHeartbeats 4000000
/-! The law's walks and all its times. -/
namespace Bide
open PySem
/-! ### all times -/
def svM (k : Bool) (l : List D) : SV := match k with
  | true => .ow (.l l)
  | false => .sh (.list l)
/-! ### the law's walks -/
end Bide

set_option pp.maxSteps 400
set_option autoImplicit false
set_option linter.all false
set_option maxRecDepth 100000
set_option maxHeartbeats 4000000
/-! The law's walks: told again, and drawn. -/
namespace Bide
open PySem
end Bide

set_option pp.maxSteps 400
set_option autoImplicit false
set_option linter.all false
set_option maxRecDepth 100000
set_option maxHeartbeats 4000000
/-! The laws' bounds by rows of lists (two ways to write them). -/
namespace Bide
open PySem
end Bide

set_option pp.maxSteps 400
set_option autoImplicit false
set_option linter.all false
set_option maxRecDepth 100000
set_option maxHeartbeats 4000000
/-! What carries what; the sources (allbide.ways), and the law's own. -/
namespace Bide
open PySem
/-! ### the checks -/
def Sml (ts : List Int) : Prop := ∀ t ∈ ts, -500 ≤ t ∧ t ≤ 500
structure TwoW (n : Int) (rs : List Rul) (t1 t2 : List Int) : Prop where
  net : NetOk n rs
  h1 : TimesOk n t1
  h2 : TimesOk n t2
  s1 : Sml t1
  s2 : Sml t2
  p1 : Pot (edgs rs) (tm t1)
  p2 : Pot (edgs rs) (tm t2)
/-! ### the events that move -/
/-! ### the bundles -/
/-! ### the sources -/
end Bide

set_option pp.maxSteps 400
set_option autoImplicit false
set_option linter.all false
set_option maxRecDepth 100000
set_option maxHeartbeats 4000000
/-! Nets drawn around heights (kept or not); whether a net can be kept; right heights. -/
namespace Bide
open PySem
theorem minI_mem : ∀ (r : List Int) (x : Int), minI x r = x ∨ minI x r ∈ r
  | [], x => .inl rfl
  | z :: r, x => by
    show minI (if z < x then z else x) r = x ∨ minI (if z < x then z else x) r ∈ z :: r
    rcases minI_mem r (if z < x then z else x) with h | h
    · rw [h]
      split
      · exact .inr (by simp)
      · exact .inl rfl
    · exact .inr (by simp [h])
/-! ### the law's net -/
/-! ### whether a net can be kept -/
/-! ### right heights -/
/-! ### drawn right heights -/
def knw (b : TB) (n j : Int) : List Int := ((List.range n.toNat).filter fun (i : Nat) => (b i j).isSome).map fun (i : Nat) => (b i j).getD 0
def mnL : List Int → Int
  | [] => 0
  | x :: r => minI x r
def hgt (b : TB) (n j : Int) : Int := mnL (knw b n j)
theorem hgt_spec {b : TB} {n j : Int} (h0 : 0 ≤ j) (h1 : j < n) (hb : b j j = some 0) : (∃ x r, knw b n j = x :: r) ∧ (∀ i d, 0 ≤ i → i < n → b i j = some d → hgt b n j ≤ d) ∧ ∃ i, (0 ≤ i ∧ i < n) ∧ b i j = some (hgt b n j) := by
  have hm : ∀ d, d ∈ knw b n j ↔ ∃ i : Int, (0 ≤ i ∧ i < n) ∧ b i j = some d := fun d => by
    unfold knw
    simp only [List.mem_map, List.mem_filter, List.mem_range]
    constructor
    · rintro ⟨i, ⟨hi, hs⟩, rfl⟩
      refine ⟨i, by omega, ?_⟩
      cases hh : b i j with
      | none => rw [hh] at hs; cases hs
      | some x => rfl
    · rintro ⟨i, ⟨i0, i1⟩, hd⟩
      refine ⟨i.toNat, ⟨by omega, ?_⟩, ?_⟩ <;> rw [show ((i.toNat : Nat) : Int) = i by omega, hd] <;> rfl
  cases hk : knw b n j with
  | nil =>
    have := (hm 0).mpr ⟨j, ⟨h0, h1⟩, hb⟩
    rw [hk] at this
    cases this
  | cons x r =>
    refine ⟨⟨x, r, rfl⟩, fun i d i0 i1 hd => ?_, ?_⟩
    · have := (hm d).mpr ⟨i, ⟨i0, i1⟩, hd⟩
      unfold hgt
      rw [hk] at this ⊢
      rcases List.mem_cons.mp this with rfl | this
      · exact (minI_le r d).1
      · exact (minI_le r x).2 d this
    · apply (hm _).mp
      unfold hgt
      rw [hk]
      rcases minI_mem r x with h | h
      · show minI x r ∈ x :: r
        rw [h]; simp
      · show minI x r ∈ x :: r
        simp [h]
end Bide

set_option pp.maxSteps 400
set_option autoImplicit false
set_option linter.all false
set_option maxRecDepth 100000
set_option maxHeartbeats 4000000
/-! Rounds: the law's fewest edges, its walks; some heights. -/
namespace Bide
open PySem
/-! ### walks of exactly so many edges -/
/-- while the next table grows -/
structure Grw (E : List Edg) (n : Int) (t : Nat) (d f : TB) (P : Edg → Int → Prop) : Prop where
  snd : ∀ i j x, 0 ≤ i → i < n → 0 ≤ j → j < n → f i j = some x → ∃ p, Pth E i p j ∧ p.length = t + 1 ∧ len p = x
  cmp : ∀ e ∈ E, ∀ i, 0 ≤ i → i < n → P e i → ∀ x, d i e.s = some x → ∃ y, f i e.t = some y ∧ y ≤ x + e.w
end Bide

set_option pp.maxSteps 400
set_option autoImplicit false
set_option linter.all false
set_option maxRecDepth 100000
set_option maxHeartbeats 4000000
/-! Rounds: what the defs compute. -/
namespace Bide
open PySem
/-! ### where a walk ends, and its length -/
end Bide

set_option pp.maxSteps 400
set_option autoImplicit false
set_option linter.all false
set_option maxRecDepth 100000
set_option maxHeartbeats 4000000
/-! What is good data is equal to itself; rows of times are equal as lists are. -/
namespace Bide
open PySem
theorem eqvAll_gd {n : Nat} (ih : ∀ d, gd n d = true → PyData.eqv d d = true) : ∀ ds : List D, (∀ x ∈ ds, gd n x = true) → PyData.eqvAll ds ds = true
  | [], _ => by simp [PyData.eqvAll]
  | d :: ds, h => by simp [PyData.eqvAll,ih d (h d (by simp)),eqvAll_gd ih ds fun x hx => h x (by simp [hx])]
theorem eqv_gd : ∀ (n : Nat) (d : D), gd n d = true → PyData.eqv d d = true
  | 0, d, h => by simp [gd] at h
  | n + 1, d, h => by
    cases d with
    | none => simp [PyData.eqv]
    | bool b => simp [PyData.eqv]
    | int i => simp [PyData.eqv]
    | str s => simp [PyData.eqv]
    | dict _ => simp [gd] at h
    | tuple ds =>
      simp only [gd, Bool.and_eq_true, List.all_eq_true] at h
      simp [PyData.eqv,eqvAll_gd (eqv_gd n) ds h.2]
    | list ds =>
      simp only [gd, Bool.and_eq_true, List.all_eq_true] at h
      simp [PyData.eqv,eqvAll_gd (eqv_gd n) ds h.2]
end Bide

set_option pp.maxSteps 400
set_option autoImplicit false
set_option linter.all false
set_option maxRecDepth 100000
set_option maxHeartbeats 4000000
/-! Walks of any data: what the program's and the law's judges of a walk say. -/
namespace Bide
open PySem
theorem gd_el {n : Nat} {ds : List D} (h : gd (n + 1) (.tuple ds) = true) : ds.length ≤ 1000 ∧ ∀ d ∈ ds, gd n d = true := by
  simp only [gd, Bool.and_eq_true, decide_eq_true_eq, List.all_eq_true] at h
  exact h
theorem gd_elL {n : Nat} {ds : List D} (h : gd (n + 1) (.list ds) = true) : ds.length ≤ 1000 ∧ ∀ d ∈ ds, gd n d = true := by
  simp only [gd, Bool.and_eq_true, decide_eq_true_eq, List.all_eq_true] at h
  exact h
/-- the edge that a value names -/
def fnd (E : List Edg) (v : D) : Option Edg := match v with
  | .tuple [.int i, w] => E.find? fun e => PyData.eqv e.id (.tuple [.int i, w])
  | _ => none
def wndA (E : List Edg) : List D → Int → Option Int
  | [], i => some i
  | v :: r, i => match fnd E v with
    | none => none
    | some e => if e.s = i then wndA E r e.t else none
def wndV (E : List Edg) (w : D) (i : Int) : Option Int := match w with
  | .tuple ds => wndA E ds i
  | _ => none
/-! ### the program's -/
theorem gd_up : ∀ {n : Nat} {d : D}, gd n d = true → gd (n + 1) d = true
  | 0, d, h => by simp [gd] at h
  | n + 1, d, h => by
    cases d with
    | tuple ds =>
      obtain ⟨a, b⟩ := gd_el h
      unfold gd
      simp only [Bool.and_eq_true, decide_eq_true_eq, List.all_eq_true]
      exact ⟨a, fun d hd => gd_up (b d hd)⟩
    | list ds =>
      obtain ⟨a, b⟩ := gd_elL h
      unfold gd
      simp only [Bool.and_eq_true, decide_eq_true_eq, List.all_eq_true]
      exact ⟨a, fun d hd => gd_up (b d hd)⟩
    | _ => simpa [gd] using h
/-! ### the law's -/
theorem shp12 {n : Nat} {d : D} (hn : n ≤ 60) (h : gd n d = true) : SeqAt.shaped d = true := gd_shaped hn h
theorem gd_le : ∀ {k n : Nat} {d : D}, gd n d = true → gd (n + k) d = true
  | 0, n, d, h => h
  | k + 1, n, d, h => gd_up (gd_le h)
theorem gd_ids {rs : List Rul} {e : Edg} (he : e ∈ edgs rs) : gd 2 e.id = true := by
  obtain ⟨k, r, _, hc⟩ := edg_at he
  have h1 : SeqAt.shaped hiN = true := by decide +kernel
  have h2 : SeqAt.shaped loN = true := by decide +kernel
  rcases hc with ⟨x, _, rfl⟩ | ⟨x, _, rfl⟩
  · simp only [gd, List.length_cons, List.length_nil, List.all_cons, List.all_nil]
    unfold hiN at h1 ⊢
    simp [gd,h1]
  · simp only [gd, List.length_cons, List.length_nil, List.all_cons, List.all_nil]
    unfold loN at h2 ⊢
    simp [gd,h2]
theorem gd_tup {m : Nat} {ds : List D} (h : ds.length ≤ 1000) (hd : ∀ d ∈ ds, gd m d = true) : gd (m + 1) (.tuple ds) = true := by
  unfold gd
  simp only [Bool.and_eq_true, decide_eq_true_eq, List.all_eq_true]
  exact ⟨h, hd⟩
theorem Has.mono {c : Cf} {x : String} {S T : Fn → Prop} (h : Has c x S) (i : ∀ F, S F → T F) : Has c x T := by
  obtain ⟨F, a, b⟩ := h
  exact ⟨F, a, i F b⟩
end Bide

set_option pp.maxSteps 400
set_option autoImplicit false
set_option linter.all false
set_option maxRecDepth 100000
set_option maxHeartbeats 4000000
/-! Heights behind a row by limits; limits of news put later, of a net turned over. -/
namespace Bide
open PySem
/-! ### put later -/
/-! ### turned over -/
section
variable {E F : List Edg} {n : Int}
/-- the edges of F are those of E the other way -/
def Rev (E F : List Edg) : Prop := ∀ e ∈ E, ∃ f ∈ F, f.s = e.t ∧ f.t = e.s ∧ f.w = e.w
theorem Rev.pth (h : Rev E F) : ∀ {p : List Edg} {i j : Int}, Pth E i p j → ∃ q, Pth F j q i ∧ len q = len p
  | [], i, j, hp => by cases hp; exact ⟨[], rfl, rfl⟩
  | e :: p, i, j, ⟨h1, h2, h3⟩ => by
    obtain ⟨q, q1, q2⟩ := Rev.pth h h3
    obtain ⟨f, f1, f2, f3, f4⟩ := h e h1
    refine ⟨q ++ [f], ?_, by rw [len_snoc]; simp only [len]; omega⟩
    have := q1.snoc f1 f2
    rw [f3, h2] at this
    exact this
theorem Rev.dist (h : Rev E F) (h' : Rev F E) {i j : Int} : ∀ {o : Option Int}, Dist E i j o → Dist F j i o
  | none, d => fun p hp => by
    obtain ⟨q, q1, _⟩ := h'.pth hp
    exact d q q1
  | some x, ⟨⟨p, p1, p2⟩, d⟩ => by
    obtain ⟨q, q1, q2⟩ := h.pth p1
    refine ⟨⟨q, q1, by omega⟩, fun r hr => ?_⟩
    obtain ⟨s, s1, s2⟩ := h'.pth hr
    have := d s s1
    omega
theorem Rev.bd (h : Rev E F) (h' : Rev F E) (hE : Ends E n) (hN : NoNeg E n) {i j : Int} (h0 : 0 ≤ i) (h1 : i < n) : Bide.bd F j i = Bide.bd E i j := bd_eq (h.dist h' (bd_dist hE hN h0 h1))
end
end Bide

set_option pp.maxSteps 400
set_option autoImplicit false
set_option linter.all false
set_option maxRecDepth 100000
set_option maxHeartbeats 4000000
/-! News that fit: the program's and the laws' own; nets that can be kept, drawn by leaving out rules. -/
namespace Bide
open PySem
/-! ### nets that are like another one -/
def Sim (E F : List Edg) (s : Int → Int) (m : Int) : Prop := ∀ e ∈ E, ∃ f ∈ F, f.s = s e.s ∧ f.t = s e.t ∧ f.w = m * e.w
theorem Sim.pth {E F : List Edg} {s : Int → Int} {m : Int} (h : Sim E F s m) : ∀ {p : List Edg} {i j : Int}, Pth E i p j → ∃ q, Pth F (s i) q (s j) ∧ len q = m * len p
  | [], i, j, hp => by cases hp; exact ⟨[], rfl, by simp [len]⟩
  | e :: p, i, j, ⟨h1, h2, h3⟩ => by
    obtain ⟨q, q1, q2⟩ := Sim.pth h h3
    obtain ⟨f, f1, f2, f3, f4⟩ := h e h1
    refine ⟨f :: q, ⟨f1, by rw [f2, h2], by rw [f3]; exact q1⟩, ?_⟩
    simp only [len]
    rw [f4, q2, Int.mul_add]
theorem edgs_mem {rs : List Rul} {e : Edg} (h : e ∈ edgs rs) : ∃ r ∈ rs, (r.hi = some e.w ∧ e.s = r.s ∧ e.t = r.e) ∨ ∃ l, r.lo = some l ∧ e.w = 0 - l ∧ e.s = r.e ∧ e.t = r.s := by
  obtain ⟨p, hp, hep⟩ := List.mem_flatMap.mp h
  refine ⟨p.2, (enumL_mem hp).2, ?_⟩
  unfold edgR at hep
  rcases List.mem_append.mp hep with hh | hh
  · cases hq : p.2.hi with
    | none => rw [hq] at hh; cases hh
    | some x =>
      rw [hq] at hh
      simp at hh
      subst hh
      exact .inl ⟨rfl, rfl, rfl⟩
  · cases hq : p.2.lo with
    | none => rw [hq] at hh; cases hh
    | some x =>
      rw [hq] at hh
      simp at hh
      subst hh
      exact .inr ⟨x, rfl, by simp, rfl, rfl⟩
/-! ### a walk that may be broken off -/
/-! ### the law's nets -/
/-! ### with rules left out until it can be kept -/
end Bide

set_option pp.maxSteps 400
set_option autoImplicit false
set_option linter.all false
set_option maxRecDepth 100000
set_option maxHeartbeats 4000000
/-! Rows of news that fit (allbide.fitting). -/
namespace Bide
open PySem
/-! ### what fits -/
/-! ### a comprehension whose test draws -/
end Bide

set_option pp.maxSteps 400
set_option autoImplicit false
set_option linter.all false
set_option maxRecDepth 100000
set_option maxHeartbeats 4000000
/-! Windows and beginnings of rows that fit. -/
namespace Bide
open PySem
theorem len_abs {E : List Edg} {W : Int} (h : ∀ e ∈ E, -W ≤ e.w ∧ e.w ≤ W) : ∀ {p : List Edg} {i j : Int}, Pth E i p j → -(W * p.length) ≤ len p ∧ len p ≤ W * p.length
  | [], i, j, _ => by simp [len]
  | e :: p, i, j, ⟨h1, h2, h3⟩ => by
    obtain ⟨a, b⟩ := len_abs h h3
    have := h e h1
    simp only [len, List.length_cons]
    rw [show W * ((p.length + 1 : Nat) : Int) = W * p.length + W by rw [Int.natCast_add, Int.mul_add]; simp]
    omega
theorem bd_abs {E : List Edg} {n W : Int} (hE : Ends E n) (hN : NoNeg E n) (hW : 0 ≤ W) (h : ∀ e ∈ E, -W ≤ e.w ∧ e.w ≤ W) (n6 : n ≤ 6) {i j d : Int} (h0 : 0 ≤ i) (h1 : i < n) (hd : bd E i j = some d) : -(W * 5) ≤ d ∧ d ≤ W * 5 := by
  have hD := bd_dist hE hN h0 h1 (j := j)
  rw [hd] at hD
  obtain ⟨⟨p, p1, p2⟩, hm⟩ := hD
  obtain ⟨q, q1, q2, q3, _⟩ := shorten hE hN p.length (Nat.le_refl _) p1 h0 h1
  have := hm q q1
  obtain ⟨a, b⟩ := len_abs h q1
  have : W * (q.length : Int) ≤ W * 5 := Int.mul_le_mul_of_nonneg_left (by omega) hW
  omega
theorem edgs_farW {rs : List Rul} {W : Int} (h : ∀ r ∈ rs, farIn W r) : ∀ e ∈ edgs rs, -W ≤ e.w ∧ e.w ≤ W := fun e he => by
  obtain ⟨r, hr, hc⟩ := edgs_mem he
  obtain ⟨h1, h2⟩ := h r hr
  rcases hc with ⟨c1, _⟩ | ⟨l, c1, c2, _⟩
  · rw [c1] at h2
    simp only [sideIn] at h2
    omega
  · rw [c1] at h1
    simp only [sideIn] at h1
    omega
/-! ### while -/
theorem wp_whl {c : Cf} {b rest : Ss} {ev : Ev} {Q : Fl → Ev → Prop} {t : T} {fuel m : Nat} (I : Nat → Ev → Prop) (h0 : I m ev) (hm : m < fuel)
    (step : ∀ k e, I (k + 1) e → ∃ e1, evT c t e = .ok true e1 ∧ wp c b e1 fun fl e2 => match fl with
      | .nx => I k e2
      | .ct => I k e2
      | .br => False
      | .rt r => Q (.rt r) e2)
    (stop : ∀ e, I 0 e → ∃ e1, evT c t e = .ok false e1 ∧ wp c rest e1 Q) : wp c (.cons (.whl fuel t b) rest) ev Q := by
  have key : ∀ (m fuel : Nat) (e : Ev), I m e → m < fuel → (∃ e' e0, whlL (evT c t) (evSs c b) fuel e = .ok .nx e' ∧ I 0 e0 ∧ evT c t e0 = .ok false e') ∨ ∃ r e', whlL (evT c t) (evSs c b) fuel e = .ok (.rt r) e' ∧ Q (.rt r) e' := by
    intro m
    induction m with
    | zero =>
      intro fuel e hi hf
      obtain ⟨e1, h1, _⟩ := stop e hi
      cases fuel with
      | zero => omega
      | succ fuel => exact .inl ⟨e1, e, by simp only [whlL, h1], hi, h1⟩
    | succ m ih =>
      intro fuel e hi hf
      obtain ⟨e1, h1, fl, e2, h2, h3⟩ := step m e hi
      cases fuel with
      | zero => omega
      | succ fuel =>
        cases fl with
        | br => exact h3.elim
        | rt r => exact .inr ⟨r, e2, by simp only [whlL, h1, h2], h3⟩
        | nx =>
          rcases ih fuel e2 h3 (by omega) with ⟨e', e0, q1, q2, q3⟩ | ⟨r, e', q1, q2⟩
          · exact .inl ⟨e', e0, by simp only [whlL, h1, h2, q1], q2, q3⟩
          · exact .inr ⟨r, e', by simp only [whlL, h1, h2, q1], q2⟩
        | ct =>
          rcases ih fuel e2 h3 (by omega) with ⟨e', e0, q1, q2, q3⟩ | ⟨r, e', q1, q2⟩
          · exact .inl ⟨e', e0, by simp only [whlL, h1, h2, q1], q2, q3⟩
          · exact .inr ⟨r, e', by simp only [whlL, h1, h2, q1], q2⟩
  rcases key m fuel ev h0 hm with ⟨e', e0, q1, q2, q3⟩ | ⟨r, e', q1, q2⟩
  · obtain ⟨e1, h1, h2⟩ := stop e0 q2
    rw [q3] at h1
    cases h1
    exact zDf (by simp only [evS, q1]) h2
  · exact wp_fl (fl := .rt r) (by simp only [evS, q1]) nofun q2
/-! ### beginnings -/
end Bide

set_option pp.maxSteps 400
set_option autoImplicit false
set_option linter.all false
set_option maxRecDepth 100000
set_option maxHeartbeats 4000000
/-! Rows of news that fit: one by one, jointly, in any sequence. -/
namespace Bide
open PySem
def Cross (b : Int → Int → Option Int) (e : Int) (row : List (Int × Int)) : Prop := ∀ p ∈ row, ∀ q ∈ row, ∀ x y, lowM b e p = some x → highM b e q = some y → x ≤ y
theorem Cross.sub {b : Int → Int → Option Int} {e : Int} {row row' : List (Int × Int)} (h : Cross b e row) (hs : ∀ w ∈ row', w ∈ row) : Cross b e row' := fun p hp q hq => h p (hs p hp) q (hs q hq)
section
variable {E : List Edg} {n : Int} (hE : Ends E n) (hN : NoNeg E n)
include hE hN
end
end Bide

set_option pp.maxSteps 400
set_option autoImplicit false
set_option linter.all false
set_option maxRecDepth 100000
set_option maxHeartbeats 4000000
/-! Repair: the program's checks and joint heights, the law's cases and rows. -/
namespace Bide
open PySem
structure RowR (n : Int) (row : List (Int × Int)) : Prop where
  len : row.length ≤ 6
  ok : RowOk n row
  nd : (row.map (·.1)).Nodup
/-! ### the law's cases and rows -/
noncomputable def khL (rs : List Rul) (n x : Int) : List Int := (List.range n.toNat).map fun (j : Nat) => hgt (bd (edgs rs)) n j + x
theorem khL_len (rs : List Rul) {n x : Int} (n1 : 1 ≤ n) : ((khL rs n x).length : Int) = n := by simp [khL]; omega
theorem khL_bnd {rs : List Rul} {n x W : Int} (hn : NetOk n rs) (hN : NoNeg (edgs rs) n) (hW : 0 ≤ W) (hf : ∀ r ∈ rs, farIn W r) (x0 : -10 ≤ x) (x1 : x ≤ 10) : ∀ t ∈ khL rs n x, -(W * 5 + 10) ≤ t ∧ t ≤ W * 5 + 10 := fun t ht => by
  obtain ⟨j, hj, rfl⟩ := List.mem_map.mp ht
  rw [List.mem_range] at hj
  have hE := edgs_ends hn.rs
  obtain ⟨_, _, i, ⟨i0, i1⟩, hi⟩ := hgt_spec (b := bd (edgs rs)) (n := n) (j := (j : Int)) (by omega) (by omega) (bd_self hE hN (by omega) (by omega))
  have := bd_abs hE hN hW (edgs_farW hf) hn.n6 i0 i1 hi
  omega
def SomeR (rs : List Rul) (n x : Int) (m : Nat) (row : List (Int × Int)) : Prop := row.length ≤ m ∧ (row.map (·.1)).Nodup ∧ ∀ p ∈ row, (0 ≤ p.1 ∧ p.1 < m) ∧ tm (khL rs n x) p.1 - 2 ≤ p.2 ∧ p.2 ≤ tm (khL rs n x) p.1 + 1
theorem SomeR.bnd {rs : List Rul} {n x W : Int} {row : List (Int × Int)} (h : SomeR rs n x n.toNat row) (hn : NetOk n rs) (hN : NoNeg (edgs rs) n) (hW : 0 ≤ W) (hf : ∀ r ∈ rs, farIn W r) (x0 : -10 ≤ x) (x1 : x ≤ 10) : ∀ p ∈ row, -(W * 5 + 12) ≤ p.2 ∧ p.2 ≤ W * 5 + 12 := fun p hp => by
  obtain ⟨hl, hd, hr⟩ := h
  have n1 := hn.n1
  obtain ⟨⟨a, b⟩, d, e⟩ := hr p hp
  have hm := khL_bnd hn hN hW hf x0 x1 _ (tm_mem (ts := khL rs n x) (i := p.1) (n := n) a (by omega) (khL_len rs n1))
  omega
end Bide

set_option pp.maxSteps 400
set_option autoImplicit false
set_option linter.all false
set_option maxRecDepth 100000
set_option maxHeartbeats 4000000
/-! Heights behind steps: the program's, the law's; the law's net and table. -/
namespace Bide
open PySem
/-! ### the forms -/
def stsD (ss : List Stp) : D := .tuple (ss.map stD)
def Sp_aresteps (F : Fn) : Prop := F.io = [false] ∧ ∀ ss : List Stp, ss.length ≤ 16 → (∀ s ∈ ss, StpOk s) → F.run [stsD ss] = .ok (.v (.bool true)) []
theorem aresteps_ok (c : Cf) (h1 : Has c "is_step" Sp_isstep) (g : c.gl "MOST_STEPS" = some (.int 16)) : Sp_aresteps (D_are_steps.fn c) := by
  obtain ⟨F, h1, hio, hr⟩ := h1
  refine ⟨rfl, fun ss hl hs => run_eq rfl ?_⟩
  simp only [D_are_steps]
  have c1 := ev_lcgn (c := c) (own := [1]) (tg := [1]) (tup := false) (it := .seq (.var 0)) (e := .call "is_step" (.cons (.var 1) .nil)) (ev := [.sh (stsD ss), .no]) (e1 := [.sh (stsD ss), .no]) (w0 := [.sh (stsD ss), .no]) (as := ss) (enc := stD) (g := fun _ => .bool true)
    (by simp [Def.fn,mkF,runF,startE,zAa,zAb,zAc,zAd,zAe,zAf,zAg,zAh,zAi,zAj,zAk,zAl,zAm,zAn,zAo,zAp,zAq,zAr,zAs,zAt,zAu,zAv,zAw,zAx,zAy,zAz,zA0,zA1,zA2,zA3,zA4,zA5,zA6,zA7,zA8,zA9,zBa,zBb,zBc,zBd,zBe,zBf,zBg,zBh,zBi,zBj,zBk,zBl,zBm,zBn,zBo,zBp,zBq,zBr,zBs,zBt,zBu,zBv,zBw,zBx,zBy,zBz,zB0,zB1,zB2,zB3,zB4,zB5,zB6,zB7,zB8,zB9,zCa,zCb,R.bind,OV.val,rd,stl,esc,escs,rds,isTy,truT_n,truT_b,truT_i,truT_l,truT_t,truT_s,truT_d,zCc,zCd,zCe,zCf,zCg,zCh,zCi,zCj,zCk,zCl,zCm,zCn,zCo,zCp,zCq,zCr,zCs,zCt,zCu,bop,blt,zCv,zCw,zCx,zCy,zCz,zC0,zC1,zC2,zC3,R.of,outsE,retR,putR,zC4,zC5,zC6,zC7,zC8,setVs,bindTg,lend,giveBack,ownL,putL,setAt,slcD,revD,asInt,List.replicate,stsD,seqOf]) rfl rfl (fun s hsm => ⟨[.sh (stsD ss), .sh (stD s)], by simp [Def.fn,mkF,runF,startE,zAa,zAb,zAc,zAd,zAe,zAf,zAg,zAh,zAi,zAj,zAk,zAl,zAm,zAn,zAo,zAp,zAq,zAr,zAs,zAt,zAu,zAv,zAw,zAx,zAy,zAz,zA0,zA1,zA2,zA3,zA4,zA5,zA6,zA7,zA8,zA9,zBa,zBb,zBc,zBd,zBe,zBf,zBg,zBh,zBi,zBj,zBk,zBl,zBm,zBn,zBo,zBp,zBq,zBr,zBs,zBt,zBu,zBv,zBw,zBx,zBy,zBz,zB0,zB1,zB2,zB3,zB4,zB5,zB6,zB7,zB8,zB9,zCa,zCb,R.bind,OV.val,rd,stl,esc,escs,rds,isTy,truT_n,truT_b,truT_i,truT_l,truT_t,truT_s,truT_d,zCc,zCd,zCe,zCf,zCg,zCh,zCi,zCj,zCk,zCl,zCm,zCn,zCo,zCp,zCq,zCr,zCs,zCt,zCu,bop,blt,zCv,zCw,zCx,zCy,zCz,zC0,zC1,zC2,zC3,R.of,outsE,retR,putR,zC4,zC5,zC6,zC7,zC8,setVs,bindTg,lend,giveBack,ownL,putL,setAt,slcD,revD,asInt,List.replicate], rfl, rfl, .v (.bool true), by simp [Def.fn,mkF,runF,startE,zAa,zAb,zAc,zAd,zAe,zAf,zAg,zAh,zAi,zAj,zAk,zAl,zAm,zAn,zAo,zAp,zAq,zAr,zAs,zAt,zAu,zAv,zAw,zAx,zAy,zAz,zA0,zA1,zA2,zA3,zA4,zA5,zA6,zA7,zA8,zA9,zBa,zBb,zBc,zBd,zBe,zBf,zBg,zBh,zBi,zBj,zBk,zBl,zBm,zBn,zBo,zBp,zBq,zBr,zBs,zBt,zBu,zBv,zBw,zBx,zBy,zBz,zB0,zB1,zB2,zB3,zB4,zB5,zB6,zB7,zB8,zB9,zCa,zCb,R.bind,OV.val,rd,stl,esc,escs,rds,isTy,truT_n,truT_b,truT_i,truT_l,truT_t,truT_s,truT_d,zCc,zCd,zCe,zCf,zCg,zCh,zCi,zCj,zCk,zCl,zCm,zCn,zCo,zCp,zCq,zCr,zCs,zCt,zCu,bop,blt,zCv,zCw,zCx,zCy,zCz,zC0,zC1,zC2,zC3,R.of,outsE,retR,putR,zC4,zC5,zC6,zC7,zC8,setVs,bindTg,lend,giveBack,ownL,putL,setAt,slcD,revD,asInt,List.replicate,h1,hio,hr s (hs s hsm)], by simp [Def.fn,mkF,runF,startE,zAa,zAb,zAc,zAd,zAe,zAf,zAg,zAh,zAi,zAj,zAk,zAl,zAm,zAn,zAo,zAp,zAq,zAr,zAs,zAt,zAu,zAv,zAw,zAx,zAy,zAz,zA0,zA1,zA2,zA3,zA4,zA5,zA6,zA7,zA8,zA9,zBa,zBb,zBc,zBd,zBe,zBf,zBg,zBh,zBi,zBj,zBk,zBl,zBm,zBn,zBo,zBp,zBq,zBr,zBs,zBt,zBu,zBv,zBw,zBx,zBy,zBz,zB0,zB1,zB2,zB3,zB4,zB5,zB6,zB7,zB8,zB9,zCa,zCb,R.bind,OV.val,rd,stl,esc,escs,rds,isTy,truT_n,truT_b,truT_i,truT_l,truT_t,truT_s,truT_d,zCc,zCd,zCe,zCf,zCg,zCh,zCi,zCj,zCk,zCl,zCm,zCn,zCo,zCp,zCq,zCr,zCs,zCt,zCu,bop,blt,zCv,zCw,zCx,zCy,zCz,zC0,zC1,zC2,zC3,R.of,outsE,retR,putR,zC4,zC5,zC6,zC7,zC8,setVs,bindTg,lend,giveBack,ownL,putL,setAt,slcD,revD,asInt,List.replicate]⟩)
  have hl' : ss.length ≤ 16777216 := by omega
  have ty : isTy .tuple (stsD ss) = some true := rfl
  have ln : lenOf (stsD ss) = some ss.length := by simp [stsD,lenOf]
  have hl2 : (ss.length : Int) ≤ 16 := by omega
  refine zDj (r := .v (.bool true)) (e1 := [.sh (stsD ss), .no]) (by simp [Def.fn,mkF,runF,startE,zAa,zAb,zAc,zAd,zAe,zAf,zAg,zAh,zAi,zAj,zAk,zAl,zAm,zAn,zAo,zAp,zAq,zAr,zAs,zAt,zAu,zAv,zAw,zAx,zAy,zAz,zA0,zA1,zA2,zA3,zA4,zA5,zA6,zA7,zA8,zA9,zBa,zBb,zBc,zBd,zBe,zBf,zBg,zBh,zBi,zBj,zBk,zBl,zBm,zBn,zBo,zBp,zBq,zBr,zBs,zBt,zBu,zBv,zBw,zBx,zBy,zBz,zB0,zB1,zB2,zB3,zB4,zB5,zB6,zB7,zB8,zB9,zCa,zCb,R.bind,OV.val,rd,stl,esc,escs,rds,truT_n,truT_b,truT_i,truT_l,truT_t,truT_s,truT_d,zCc,zCd,zCe,zCf,zCg,zCh,zCi,zCj,zCk,zCl,zCm,zCn,zCo,zCp,zCq,zCr,zCs,zCt,zCu,bop,blt,zCv,zCw,zCx,zCy,zCz,zC0,zC1,zC2,zC3,R.of,outsE,retR,putR,zC4,zC5,zC6,zC7,zC8,setVs,bindTg,lend,giveBack,ownL,putL,setAt,slcD,revD,asInt,List.replicate,ty,ln,line,hl',g,hl2,c1,bls_true,all_tt]) (by simp [Def.fn,mkF,runF,startE,zAa,zAb,zAc,zAd,zAe,zAf,zAg,zAh,zAi,zAj,zAk,zAl,zAm,zAn,zAo,zAp,zAq,zAr,zAs,zAt,zAu,zAv,zAw,zAx,zAy,zAz,zA0,zA1,zA2,zA3,zA4,zA5,zA6,zA7,zA8,zA9,zBa,zBb,zBc,zBd,zBe,zBf,zBg,zBh,zBi,zBj,zBk,zBl,zBm,zBn,zBo,zBp,zBq,zBr,zBs,zBt,zBu,zBv,zBw,zBx,zBy,zBz,zB0,zB1,zB2,zB3,zB4,zB5,zB6,zB7,zB8,zB9,zCa,zCb,R.bind,OV.val,rd,stl,esc,escs,rds,isTy,truT_n,truT_b,truT_i,truT_l,truT_t,truT_s,truT_d,zCc,zCd,zCe,zCf,zCg,zCh,zCi,zCj,zCk,zCl,zCm,zCn,zCo,zCp,zCq,zCr,zCs,zCt,zCu,bop,blt,zCv,zCw,zCx,zCy,zCz,zC0,zC1,zC2,zC3,R.of,outsE,retR,putR,zC4,zC5,zC6,zC7,zC8,setVs,bindTg,lend,giveBack,ownL,putL,setAt,slcD,revD,asInt,List.replicate]; first | done | rfl | exact ⟨rfl, rfl⟩ | (constructor <;> rfl)) ?_
  exact ⟨[], rfl, rfl, rfl⟩
def Sp_csteps (F : Fn) : Prop := F.io = [false] ∧ ∀ ss : List Stp, ss.length ≤ 16 → (∀ s ∈ ss, StpOk s) → F.run [stsD ss] = .ok (.v .none) []
theorem csteps_ok (c : Cf) (h1 : Has c "are_steps" Sp_aresteps) : Sp_csteps (D_check_steps.fn c) := by
  obtain ⟨F, h1, hio, hr⟩ := h1
  refine ⟨rfl, fun ss hl hs => ?_⟩
  have q := hr ss hl hs
  obtain ⟨N, hNd⟩ : ∃ N, N = stsD ss := ⟨_, rfl⟩
  rw [← hNd] at q ⊢
  simp [Def.fn,mkF,runF,startE,zAa,zAb,zAc,zAd,zAe,zAf,zAg,zAh,zAi,zAj,zAk,zAl,zAm,zAn,zAo,zAp,zAq,zAr,zAs,zAt,zAu,zAv,zAw,zAx,zAy,zAz,zA0,zA1,zA2,zA3,zA4,zA5,zA6,zA7,zA8,zA9,zBa,zBb,zBc,zBd,zBe,zBf,zBg,zBh,zBi,zBj,zBk,zBl,zBm,zBn,zBo,zBp,zBq,zBr,zBs,zBt,zBu,zBv,zBw,zBx,zBy,zBz,zB0,zB1,zB2,zB3,zB4,zB5,zB6,zB7,zB8,zB9,zCa,zCb,R.bind,OV.val,rd,stl,esc,escs,rds,isTy,truT_n,truT_b,truT_i,truT_l,truT_t,truT_s,truT_d,zCc,zCd,zCe,zCf,zCg,zCh,zCi,zCj,zCk,zCl,zCm,zCn,zCo,zCp,zCq,zCr,zCs,zCt,zCu,bop,blt,zCv,zCw,zCx,zCy,zCz,zC0,zC1,zC2,zC3,R.of,outsE,retR,putR,setV,setVs,bindTg,lend,giveBack,ownL,putL,setAt,slcD,revD,asInt,List.replicate,D_check_steps,h1,hio,q]
/-! ### a step -/
def st1 (b : TB) (s : Stp) (e h : Int) : Int := if s.1 = true then (match b e s.2.1 with
    | some x => if s.2.2 - x > h then s.2.2 - x else h
    | none => h) else (match b s.2.1 e with
    | some x => if s.2.2 + x < h then s.2.2 + x else h
    | none => h)
theorem wrd_r (k : Bool) : cop .eq (wrd k) (.str (Str.ofString "raise")) = some k := by cases k <;> decide +kernel
/-! ### the law's net -/
/-! ### the law's table -/
end Bide

set_option pp.maxSteps 400
set_option autoImplicit false
set_option linter.all false
set_option maxRecDepth 100000
set_option maxHeartbeats 4000000
/-! Idle steps: what they are, and that heights do not need them. -/
namespace Bide
open PySem
def strg (a b : Stp) : Bool := if a.1 = true then decide (b.2.2 < a.2.2) else decide (a.2.2 < b.2.2)
def gS (ss : List Stp) (i : Nat) : Stp := ss.getD i (true, 0, 0)
def mids (ss : List Stp) (j i : Nat) : List Stp := (ss.drop (j + 1)).take (i - (j + 1))
def idl (ss : List Stp) (i j : Nat) : Bool := decide (i ≠ j) && ((decide ((gS ss i).1 = (gS ss j).1) && decide ((gS ss i).2.1 = (gS ss j).2.1)) && if i < j then !strg (gS ss i) (gS ss j) else strg (gS ss j) (gS ss i) && (mids ss j i).all (comm (gS ss i)))
theorem gS_at {ss : List Stp} {i : Nat} (h : i < ss.length) : ss[i]? = some (gS ss i) := by simp [gS,List.getD,List.getElem?_eq_getElem h]
/-- a row of steps, as a tuple or a list -/
def sq (k : Bool) (ss : List Stp) : D := match k with
  | true => .tuple (ss.map stD)
  | false => .list (ss.map stD)
theorem at_sts {k : Bool} {ss : List Stp} {i : Nat} (h : i < ss.length) : idxD (sq k ss) (.int (i : Int)) = some (stD (gS ss i)) := by
  have : atD (ss.map stD) (i : Int) = some (stD (gS ss i)) := by
    rw [atD_nat (by omega), List.getElem?_map, Int.toNat_natCast, gS_at h]
    rfl
  cases k <;> exact this
theorem len_sq (k : Bool) (ss : List Stp) : lenOf (sq k ss) = some ss.length := by cases k <;> simp [sq,lenOf]
def Sp_strg (F : Fn) : Prop := F.io = [false, false] ∧ ∀ a b : Stp, F.run [stD a, stD b] = .ok (.v (.bool (strg a b))) []
theorem strg_ok (c : Cf) : Sp_strg (D_is_stronger.fn c) := by
  refine ⟨rfl, fun a b => ?_⟩
  have w := wrd_r a.1
  cases h : a.1 <;> (rw [h] at w; simp [Def.fn,mkF,runF,startE,zAa,zAb,zAc,zAd,zAe,zAf,zAg,zAh,zAi,zAj,zAk,zAl,zAm,zAn,zAo,zAp,zAq,zAr,zAs,zAt,zAu,zAv,zAw,zAx,zAy,zAz,zA0,zA1,zA2,zA3,zA4,zA5,zA6,zA7,zA8,zA9,zBa,zBb,zBc,zBd,zBe,zBf,zBg,zBh,zBi,zBj,zBk,zBl,zBm,zBn,zBo,zBp,zBq,zBr,zBs,zBt,zBu,zBv,zBw,zBx,zBy,zBz,zB0,zB1,zB2,zB3,zB4,zB5,zB6,zB7,zB8,zB9,zCa,zCb,R.bind,OV.val,rd,stl,esc,escs,rds,isTy,truT_n,truT_b,truT_i,truT_l,truT_t,truT_s,truT_d,zCc,zCd,zCe,zCf,zCg,zCh,zCi,zCj,zCk,zCl,zCm,zCn,zCo,zCp,zCq,zCr,zCs,zCt,zCu,bop,blt,zCv,zCw,zCx,zCy,zCz,zC0,zC1,zC2,zC3,R.of,outsE,retR,putR,setV,setVs,bindTg,lend,giveBack,ownL,putL,setAt,slcD,revD,asInt,List.replicate,D_is_stronger,stD,h,w,strg])
theorem cut2 (a : Stp) : slcD (stD a) none (some 2) = some (.v (.tuple [wrd a.1, .int a.2.1])) := rfl
theorem gd_wrd (k : Bool) : gd 3 (wrd k) = true := by cases k <;> decide +kernel
theorem eqv_wrd (a b : Bool) : PyData.eqv (wrd a) (wrd b) = decide (a = b) := by cases a <;> cases b <;> decide +kernel
theorem ne_cut2 (a b : Stp) : cop .ne (.tuple [wrd a.1, .int a.2.1]) (.tuple [wrd b.1, .int b.2.1]) = some (!(decide (a.1 = b.1) && decide (a.2.1 = b.2.1))) := by
  have g : ∀ a : Stp, gd 4 (.tuple [wrd a.1, .int a.2.1]) = true := fun a => gd_tup (by simp) fun d hd => by
    simp only [List.mem_cons, List.not_mem_nil, or_false] at hd
    rcases hd with rfl | rfl
    · exact gd_wrd _
    · rfl
  rw [cop_neD (shp12 (by omega) (g a)) (shp12 (by omega) (g b))]
  simp only [PyData.eqv, PyData.eqvAll, eqv_wrd, Bool.and_true]
  congr 2
theorem cut_mid {ss : List Stp} {j i : Nat} (hi : i < ss.length) : cutL (ss.map stD) (some ((j : Int) + 1)) (some (i : Int)) = (mids ss j i).map stD := by
  have h1 : cutN ss.length 0 (some ((j : Int) + 1)) = min (j + 1) ss.length := by
    simp only [cutN]
    rw [if_neg (by omega)]
    congr 1
  have h2 : cutN ss.length ss.length (some (i : Int)) = i := by
    simp only [cutN]
    rw [if_neg (by omega)]
    omega
  unfold cutL mids
  rw [List.length_map, h1, h2, List.map_take, List.map_drop]
  by_cases hj : j + 1 ≤ ss.length
  · rw [Nat.min_eq_left hj]
  · rw [show i - min (j + 1) ss.length = 0 by omega, show i - (j + 1) = 0 by omega]
    simp
def Sp_mkidle (F : Fn) : Prop := F.io = [false, false, false] ∧ ∀ (k : Bool) (ss : List Stp) (i j : Nat), ss.length ≤ 1000 → i < ss.length → j < ss.length → F.run [sq k ss, .int (i : Int), .int (j : Int)] = .ok (.v (.bool (idl ss i j))) []
theorem mkidle_ok (c : Cf) (h1 : Has c "is_stronger" Sp_strg) (h2 : Has c "do_commute" Sp_do) : Sp_mkidle (D_makes_idle.fn c) := by
  obtain ⟨F, h1, hio, hr⟩ := h1
  obtain ⟨G, h2, o2, r2⟩ := h2
  refine ⟨rfl, fun k ss i j hl hi hj => run_eq rfl ?_⟩
  have a1 := at_sts (k := k) hi
  have a2 := at_sts (k := k) hj
  have e1 : k = true → slcD (sq k ss) (some ((j : Int) + 1)) (some (i : Int)) = some (.v (.tuple ((mids ss j i).map stD))) := by
    rintro rfl
    show some (RV.v (.tuple (cutL (ss.map stD) (some ((j : Int) + 1)) (some (i : Int))))) = _
    rw [cut_mid hi]
  have e2 : k = false → slcD (sq k ss) (some ((j : Int) + 1)) (some (i : Int)) = some (.f (.l ((mids ss j i).map stD))) := by
    rintro rfl
    show some (RV.f (.l (cutL (ss.map stD) (some ((j : Int) + 1)) (some (i : Int))))) = _
    rw [cut_mid hi]
  have ne := ne_cut2 (gS ss i) (gS ss j)
  have c1 := cut2 (gS ss i)
  have c2 := cut2 (gS ss j)
  have q1 := hr (gS ss i) (gS ss j)
  have q2 := hr (gS ss j) (gS ss i)
  have q3 := fun s => r2 (gS ss i) s
  have hidl : idl ss i j = (decide (i ≠ j) && ((decide ((gS ss i).1 = (gS ss j).1) && decide ((gS ss i).2.1 = (gS ss j).2.1)) && if i < j then !strg (gS ss i) (gS ss j) else strg (gS ss j) (gS ss i) && (mids ss j i).all (comm (gS ss i)))) := rfl
  rw [hidl]
  generalize (decide ((gS ss i).1 = (gS ss j).1) && decide ((gS ss i).2.1 = (gS ss j).2.1)) = sm at ne ⊢
  generalize mids ss j i = MM at e1 e2 ⊢
  have hall : ∀ ev : Ev, ev = [.sh (sq k ss), .sh (.int (i : Int)), .sh (.int (j : Int)), .sh (stD (gS ss i)), .sh (stD (gS ss j)), .no] → evE c (.blt .all (.cons (.lc [5] [5] false (.seq (.slc (.var 0) (.so (.bin .add (.var 2) (.int 1))) (.so (.var 1)))) .no (.call "do_commute" (.cons (.var 3) (.cons (.var 5) .nil)))) .nil)) ev = .ok (.v (.bool (MM.all (comm (gS ss i))))) ev := by
    rintro _ rfl
    have cc := ev_lcgn (c := c) (own := [5]) (tg := [5]) (tup := false) (it := .seq (.slc (.var 0) (.so (.bin .add (.var 2) (.int 1))) (.so (.var 1)))) (e := .call "do_commute" (.cons (.var 3) (.cons (.var 5) .nil))) (ev := [.sh (sq k ss), .sh (.int (i : Int)), .sh (.int (j : Int)), .sh (stD (gS ss i)), .sh (stD (gS ss j)), .no]) (e1 := [.sh (sq k ss), .sh (.int (i : Int)), .sh (.int (j : Int)), .sh (stD (gS ss i)), .sh (stD (gS ss j)), .no]) (w0 := [.sh (sq k ss), .sh (.int (i : Int)), .sh (.int (j : Int)), .sh (stD (gS ss i)), .sh (stD (gS ss j)), .no])
      (as := MM) (enc := stD) (g := fun s => .bool (comm (gS ss i) s)) (by cases hk : k with
        | true => rw [hk] at e1; simp [Def.fn,mkF,runF,startE,zAa,zAb,zAc,zAd,zAe,zAf,zAg,zAh,zAi,zAj,zAk,zAl,zAm,zAn,zAo,zAp,zAq,zAr,zAs,zAt,zAu,zAv,zAw,zAx,zAy,zAz,zA0,zA1,zA2,zA3,zA4,zA5,zA6,zA7,zA8,zA9,zBa,zBb,zBc,zBd,zBe,zBf,zBg,zBh,zBi,zBj,zBk,zBl,zBm,zBn,zBo,zBp,zBq,zBr,zBs,zBt,zBu,zBv,zBw,zBx,zBy,zBz,zB0,zB1,zB2,zB3,zB4,zB5,zB6,zB7,zB8,zB9,zCa,zCb,R.bind,OV.val,rd,stl,esc,escs,rds,isTy,truT_n,truT_b,truT_i,truT_l,truT_t,truT_s,truT_d,zCc,zCd,zCe,zCf,zCg,zCh,zCi,zCj,zCk,zCl,zCm,zCn,zCo,zCp,zCq,zCr,zCs,zCt,zCu,bop,blt,zCv,zCw,zCx,zCy,zCz,zC0,zC1,zC2,zC3,R.of,outsE,retR,putR,zC4,zC5,zC6,zC7,zC8,setVs,bindTg,lend,giveBack,ownL,putL,setAt,revD,asInt,List.replicate,e1,seqOf]
        | false => rw [hk] at e2; simp [Def.fn,mkF,runF,startE,zAa,zAb,zAc,zAd,zAe,zAf,zAg,zAh,zAi,zAj,zAk,zAl,zAm,zAn,zAo,zAp,zAq,zAr,zAs,zAt,zAu,zAv,zAw,zAx,zAy,zAz,zA0,zA1,zA2,zA3,zA4,zA5,zA6,zA7,zA8,zA9,zBa,zBb,zBc,zBd,zBe,zBf,zBg,zBh,zBi,zBj,zBk,zBl,zBm,zBn,zBo,zBp,zBq,zBr,zBs,zBt,zBu,zBv,zBw,zBx,zBy,zBz,zB0,zB1,zB2,zB3,zB4,zB5,zB6,zB7,zB8,zB9,zCa,zCb,R.bind,OV.val,rd,stl,esc,escs,rds,isTy,truT_n,truT_b,truT_i,truT_l,truT_t,truT_s,truT_d,zCc,zCd,zCe,zCf,zCg,zCh,zCi,zCj,zCk,zCl,zCm,zCn,zCo,zCp,zCq,zCr,zCs,zCt,zCu,bop,blt,zCv,zCw,zCx,zCy,zCz,zC0,zC1,zC2,zC3,R.of,outsE,retR,putR,zC4,zC5,zC6,zC7,zC8,setVs,bindTg,lend,giveBack,ownL,putL,setAt,revD,asInt,List.replicate,e2,seqOf]) rfl rfl (fun s hs => ⟨[.sh (sq k ss), .sh (.int (i : Int)), .sh (.int (j : Int)), .sh (stD (gS ss i)), .sh (stD (gS ss j)), .sh (stD s)], by simp [Def.fn,mkF,runF,startE,zAa,zAb,zAc,zAd,zAe,zAf,zAg,zAh,zAi,zAj,zAk,zAl,zAm,zAn,zAo,zAp,zAq,zAr,zAs,zAt,zAu,zAv,zAw,zAx,zAy,zAz,zA0,zA1,zA2,zA3,zA4,zA5,zA6,zA7,zA8,zA9,zBa,zBb,zBc,zBd,zBe,zBf,zBg,zBh,zBi,zBj,zBk,zBl,zBm,zBn,zBo,zBp,zBq,zBr,zBs,zBt,zBu,zBv,zBw,zBx,zBy,zBz,zB0,zB1,zB2,zB3,zB4,zB5,zB6,zB7,zB8,zB9,zCa,zCb,R.bind,OV.val,rd,stl,esc,escs,rds,isTy,truT_n,truT_b,truT_i,truT_l,truT_t,truT_s,truT_d,zCc,zCd,zCe,zCf,zCg,zCh,zCi,zCj,zCk,zCl,zCm,zCn,zCo,zCp,zCq,zCr,zCs,zCt,zCu,bop,blt,zCv,zCw,zCx,zCy,zCz,zC0,zC1,zC2,zC3,R.of,outsE,retR,putR,zC4,zC5,zC6,zC7,zC8,setVs,bindTg,lend,giveBack,ownL,putL,setAt,slcD,revD,asInt,List.replicate], rfl, rfl, .v (.bool (comm (gS ss i) s)), by simp [Def.fn,mkF,runF,startE,zAa,zAb,zAc,zAd,zAe,zAf,zAg,zAh,zAi,zAj,zAk,zAl,zAm,zAn,zAo,zAp,zAq,zAr,zAs,zAt,zAu,zAv,zAw,zAx,zAy,zAz,zA0,zA1,zA2,zA3,zA4,zA5,zA6,zA7,zA8,zA9,zBa,zBb,zBc,zBd,zBe,zBf,zBg,zBh,zBi,zBj,zBk,zBl,zBm,zBn,zBo,zBp,zBq,zBr,zBs,zBt,zBu,zBv,zBw,zBx,zBy,zBz,zB0,zB1,zB2,zB3,zB4,zB5,zB6,zB7,zB8,zB9,zCa,zCb,R.bind,OV.val,rd,stl,esc,escs,rds,isTy,truT_n,truT_b,truT_i,truT_l,truT_t,truT_s,truT_d,zCc,zCd,zCe,zCf,zCg,zCh,zCi,zCj,zCk,zCl,zCm,zCn,zCo,zCp,zCq,zCr,zCs,zCt,zCu,bop,blt,zCv,zCw,zCx,zCy,zCz,zC0,zC1,zC2,zC3,R.of,outsE,retR,putR,zC4,zC5,zC6,zC7,zC8,setVs,bindTg,lend,giveBack,ownL,putL,setAt,slcD,revD,asInt,List.replicate,h2,o2,q3 s], by simp [Def.fn,mkF,runF,startE,zAa,zAb,zAc,zAd,zAe,zAf,zAg,zAh,zAi,zAj,zAk,zAl,zAm,zAn,zAo,zAp,zAq,zAr,zAs,zAt,zAu,zAv,zAw,zAx,zAy,zAz,zA0,zA1,zA2,zA3,zA4,zA5,zA6,zA7,zA8,zA9,zBa,zBb,zBc,zBd,zBe,zBf,zBg,zBh,zBi,zBj,zBk,zBl,zBm,zBn,zBo,zBp,zBq,zBr,zBs,zBt,zBu,zBv,zBw,zBx,zBy,zBz,zB0,zB1,zB2,zB3,zB4,zB5,zB6,zB7,zB8,zB9,zCa,zCb,R.bind,OV.val,rd,stl,esc,escs,rds,isTy,truT_n,truT_b,truT_i,truT_l,truT_t,truT_s,truT_d,zCc,zCd,zCe,zCf,zCg,zCh,zCi,zCj,zCk,zCl,zCm,zCn,zCo,zCp,zCq,zCr,zCs,zCt,zCu,bop,blt,zCv,zCw,zCx,zCy,zCz,zC0,zC1,zC2,zC3,R.of,outsE,retR,putR,zC4,zC5,zC6,zC7,zC8,setVs,bindTg,lend,giveBack,ownL,putL,setAt,slcD,revD,asInt,List.replicate]⟩)
    generalize comm (gS ss i) = f at cc ⊢
    simp [Def.fn,mkF,runF,startE,zAa,zAb,zAc,zAd,zAe,zAf,zAg,zAh,zAi,zAj,zAk,zAl,zAm,zAn,zAo,zAp,zAq,zAr,zAs,zAt,zAu,zAv,zAw,zAx,zAy,zAz,zA0,zA1,zA2,zA3,zA4,zA5,zA6,zA7,zA8,zA9,zBa,zBb,zBc,zBd,zBe,zBf,zBg,zBh,zBi,zBj,zBk,zBl,zBm,zBn,zBo,zBp,zBq,zBr,zBs,zBt,zBu,zBv,zBw,zBx,zBy,zBz,zB0,zB1,zB2,zB3,zB4,zB5,zB6,zB7,zB8,zB9,zCa,zCb,R.bind,OV.val,rd,stl,esc,escs,rds,isTy,truT_n,truT_b,truT_i,truT_l,truT_t,truT_s,truT_d,zCc,zCd,zCe,zCf,zCg,zCh,zCi,zCj,zCk,zCl,zCm,zCn,zCo,zCp,zCq,zCr,zCs,zCt,zCu,bop,blt,zCv,zCw,zCx,zCy,zCz,zC0,zC1,zC2,zC3,R.of,outsE,retR,putR,zC4,zC5,zC6,zC7,zC8,setVs,bindTg,lend,giveBack,ownL,putL,setAt,slcD,revD,asInt,List.replicate,cc,bls_map,List.all_map,Function.comp_def]
  generalize strg (gS ss i) (gS ss j) = s1 at q1 ⊢
  generalize strg (gS ss j) (gS ss i) = s2 at q2 ⊢
  generalize MM.all (comm (gS ss i)) = am at hall ⊢
  obtain ⟨A, hA⟩ : ∃ A, A = stD (gS ss i) := ⟨_, rfl⟩
  obtain ⟨B, hB⟩ : ∃ B, B = stD (gS ss j) := ⟨_, rfl⟩
  rw [← hA] at a1 c1 q1 q2 hall
  rw [← hB] at a2 c2 q1 q2 hall
  simp only [D_makes_idle]
  refine zDf (e1 := [.sh (sq k ss), .sh (.int (i : Int)), .sh (.int (j : Int)), .sh A, .sh B, .no]) (by simp [Def.fn,mkF,runF,startE,zAa,zAb,zAc,zAd,zAe,zAf,zAg,zAh,zAi,zAj,zAk,zAl,zAm,zAn,zAo,zAp,zAq,zAr,zAs,zAt,zAu,zAv,zAw,zAx,zAy,zAz,zA0,zA1,zA2,zA3,zA4,zA5,zA6,zA7,zA8,zA9,zBa,zBb,zBc,zBd,zBe,zBf,zBg,zBh,zBi,zBj,zBk,zBl,zBm,zBn,zBo,zBp,zBq,zBr,zBs,zBt,zBu,zBv,zBw,zBx,zBy,zBz,zB0,zB1,zB2,zB3,zB4,zB5,zB6,zB7,zB8,zB9,zCa,zCb,R.bind,OV.val,rd,stl,esc,escs,rds,isTy,truT_n,truT_b,truT_i,truT_l,truT_t,truT_s,truT_d,zCc,zCd,zCe,zCf,zCg,zCh,zCi,zCj,zCk,zCl,zCm,zCn,zCo,zCp,zCq,zCr,zCs,zCt,zCu,bop,blt,zCv,zCw,zCx,zCy,zCz,zC0,zC1,zC2,zC3,R.of,outsE,retR,putR,zC4,zC5,zC6,zC7,zC8,setVs,bindTg,lend,giveBack,ownL,putL,setAt,slcD,revD,asInt,List.replicate,a1,a2,line]) ?_
  by_cases hij : i = j
  · refine zDi (e1 := [.sh (sq k ss), .sh (.int (i : Int)), .sh (.int (j : Int)), .sh A, .sh B, .no]) (by simp [Def.fn,mkF,runF,startE,zAa,zAb,zAc,zAd,zAe,zAf,zAg,zAh,zAi,zAj,zAk,zAl,zAm,zAn,zAo,zAp,zAq,zAr,zAs,zAt,zAu,zAv,zAw,zAx,zAy,zAz,zA0,zA1,zA2,zA3,zA4,zA5,zA6,zA7,zA8,zA9,zBa,zBb,zBc,zBd,zBe,zBf,zBg,zBh,zBi,zBj,zBk,zBl,zBm,zBn,zBo,zBp,zBq,zBr,zBs,zBt,zBu,zBv,zBw,zBx,zBy,zBz,zB0,zB1,zB2,zB3,zB4,zB5,zB6,zB7,zB8,zB9,zCa,zCb,R.bind,OV.val,rd,stl,esc,escs,rds,isTy,truT_n,truT_b,truT_i,truT_l,truT_t,truT_s,truT_d,zCc,zCd,zCe,zCf,zCg,zCh,zCi,zCj,zCk,zCl,zCm,zCn,zCo,zCp,zCq,zCr,zCs,zCt,zCu,bop,blt,zCv,zCw,zCx,zCy,zCz,zC0,zC1,zC2,zC3,R.of,outsE,retR,putR,zC4,zC5,zC6,zC7,zC8,setVs,bindTg,lend,giveBack,ownL,putL,setAt,slcD,revD,asInt,List.replicate,hij]) (zDj (by simp [Def.fn,mkF,runF,startE,zAa,zAb,zAc,zAd,zAe,zAf,zAg,zAh,zAi,zAj,zAk,zAl,zAm,zAn,zAo,zAp,zAq,zAr,zAs,zAt,zAu,zAv,zAw,zAx,zAy,zAz,zA0,zA1,zA2,zA3,zA4,zA5,zA6,zA7,zA8,zA9,zBa,zBb,zBc,zBd,zBe,zBf,zBg,zBh,zBi,zBj,zBk,zBl,zBm,zBn,zBo,zBp,zBq,zBr,zBs,zBt,zBu,zBv,zBw,zBx,zBy,zBz,zB0,zB1,zB2,zB3,zB4,zB5,zB6,zB7,zB8,zB9,zCa,zCb,R.bind,OV.val,rd,stl,esc,escs,rds,isTy,truT_n,truT_b,truT_i,truT_l,truT_t,truT_s,truT_d,zCc,zCd,zCe,zCf,zCg,zCh,zCi,zCj,zCk,zCl,zCm,zCn,zCo,zCp,zCq,zCr,zCs,zCt,zCu,bop,blt,zCv,zCw,zCx,zCy,zCz,zC0,zC1,zC2,zC3,R.of,outsE,retR,putR,zC4,zC5,zC6,zC7,zC8,setVs,bindTg,lend,giveBack,ownL,putL,setAt,slcD,revD,asInt,List.replicate]; first | done | rfl | exact ⟨rfl, rfl⟩ | (constructor <;> rfl)) (by simp [Def.fn,mkF,runF,startE,zAa,zAb,zAc,zAd,zAe,zAf,zAg,zAh,zAi,zAj,zAk,zAl,zAm,zAn,zAo,zAp,zAq,zAr,zAs,zAt,zAu,zAv,zAw,zAx,zAy,zAz,zA0,zA1,zA2,zA3,zA4,zA5,zA6,zA7,zA8,zA9,zBa,zBb,zBc,zBd,zBe,zBf,zBg,zBh,zBi,zBj,zBk,zBl,zBm,zBn,zBo,zBp,zBq,zBr,zBs,zBt,zBu,zBv,zBw,zBx,zBy,zBz,zB0,zB1,zB2,zB3,zB4,zB5,zB6,zB7,zB8,zB9,zCa,zCb,R.bind,OV.val,rd,stl,esc,escs,rds,isTy,truT_n,truT_b,truT_i,truT_l,truT_t,truT_s,truT_d,zCc,zCd,zCe,zCf,zCg,zCh,zCi,zCj,zCk,zCl,zCm,zCn,zCo,zCp,zCq,zCr,zCs,zCt,zCu,bop,blt,zCv,zCw,zCx,zCy,zCz,zC0,zC1,zC2,zC3,R.of,outsE,retR,putR,zC4,zC5,zC6,zC7,zC8,setVs,bindTg,lend,giveBack,ownL,putL,setAt,slcD,revD,asInt,List.replicate]; first | done | rfl | exact ⟨rfl, rfl⟩ | (constructor <;> rfl)) ?_)
    exact ⟨[], rfl, by simp [hij], rfl⟩
  have hij' : ((i : Int) = (j : Int)) = False := by simp; omega
  cases sm with
  | false =>
    refine zDi (e1 := [.sh (sq k ss), .sh (.int (i : Int)), .sh (.int (j : Int)), .sh A, .sh B, .no]) (by simp [Def.fn,mkF,runF,startE,zAa,zAb,zAc,zAd,zAe,zAf,zAg,zAh,zAi,zAj,zAk,zAl,zAm,zAn,zAo,zAp,zAq,zAr,zAs,zAt,zAu,zAv,zAw,zAx,zAy,zAz,zA0,zA1,zA2,zA3,zA4,zA5,zA6,zA7,zA8,zA9,zBa,zBb,zBc,zBd,zBe,zBf,zBg,zBh,zBi,zBj,zBk,zBl,zBm,zBn,zBo,zBp,zBq,zBr,zBs,zBt,zBu,zBv,zBw,zBx,zBy,zBz,zB0,zB1,zB2,zB3,zB4,zB5,zB6,zB7,zB8,zB9,zCa,zCb,R.bind,OV.val,rd,stl,esc,escs,rds,isTy,truT_n,truT_b,truT_i,truT_l,truT_t,truT_s,truT_d,zCc,zCd,zCe,zCf,zCg,zCh,zCi,zCj,zCk,zCl,zCm,zCn,zCo,zCp,zCq,zCr,zCs,zCt,zCu,bop,blt,zCv,zCw,zCx,zCy,zCz,zC0,zC1,zC2,zC3,R.of,outsE,retR,putR,zC4,zC5,zC6,zC7,zC8,setVs,bindTg,lend,giveBack,ownL,putL,setAt,revD,asInt,List.replicate,hij',c1,c2,ne]) (zDj (by simp [Def.fn,mkF,runF,startE,zAa,zAb,zAc,zAd,zAe,zAf,zAg,zAh,zAi,zAj,zAk,zAl,zAm,zAn,zAo,zAp,zAq,zAr,zAs,zAt,zAu,zAv,zAw,zAx,zAy,zAz,zA0,zA1,zA2,zA3,zA4,zA5,zA6,zA7,zA8,zA9,zBa,zBb,zBc,zBd,zBe,zBf,zBg,zBh,zBi,zBj,zBk,zBl,zBm,zBn,zBo,zBp,zBq,zBr,zBs,zBt,zBu,zBv,zBw,zBx,zBy,zBz,zB0,zB1,zB2,zB3,zB4,zB5,zB6,zB7,zB8,zB9,zCa,zCb,R.bind,OV.val,rd,stl,esc,escs,rds,isTy,truT_n,truT_b,truT_i,truT_l,truT_t,truT_s,truT_d,zCc,zCd,zCe,zCf,zCg,zCh,zCi,zCj,zCk,zCl,zCm,zCn,zCo,zCp,zCq,zCr,zCs,zCt,zCu,bop,blt,zCv,zCw,zCx,zCy,zCz,zC0,zC1,zC2,zC3,R.of,outsE,retR,putR,zC4,zC5,zC6,zC7,zC8,setVs,bindTg,lend,giveBack,ownL,putL,setAt,slcD,revD,asInt,List.replicate]; first | done | rfl | exact ⟨rfl, rfl⟩ | (constructor <;> rfl)) (by simp [Def.fn,mkF,runF,startE,zAa,zAb,zAc,zAd,zAe,zAf,zAg,zAh,zAi,zAj,zAk,zAl,zAm,zAn,zAo,zAp,zAq,zAr,zAs,zAt,zAu,zAv,zAw,zAx,zAy,zAz,zA0,zA1,zA2,zA3,zA4,zA5,zA6,zA7,zA8,zA9,zBa,zBb,zBc,zBd,zBe,zBf,zBg,zBh,zBi,zBj,zBk,zBl,zBm,zBn,zBo,zBp,zBq,zBr,zBs,zBt,zBu,zBv,zBw,zBx,zBy,zBz,zB0,zB1,zB2,zB3,zB4,zB5,zB6,zB7,zB8,zB9,zCa,zCb,R.bind,OV.val,rd,stl,esc,escs,rds,isTy,truT_n,truT_b,truT_i,truT_l,truT_t,truT_s,truT_d,zCc,zCd,zCe,zCf,zCg,zCh,zCi,zCj,zCk,zCl,zCm,zCn,zCo,zCp,zCq,zCr,zCs,zCt,zCu,bop,blt,zCv,zCw,zCx,zCy,zCz,zC0,zC1,zC2,zC3,R.of,outsE,retR,putR,zC4,zC5,zC6,zC7,zC8,setVs,bindTg,lend,giveBack,ownL,putL,setAt,slcD,revD,asInt,List.replicate]; first | done | rfl | exact ⟨rfl, rfl⟩ | (constructor <;> rfl)) ?_)
    exact ⟨[], rfl, by simp, rfl⟩
  | true =>
  refine zDh (e1 := [.sh (sq k ss), .sh (.int (i : Int)), .sh (.int (j : Int)), .sh A, .sh B, .no]) (by simp [Def.fn,mkF,runF,startE,zAa,zAb,zAc,zAd,zAe,zAf,zAg,zAh,zAi,zAj,zAk,zAl,zAm,zAn,zAo,zAp,zAq,zAr,zAs,zAt,zAu,zAv,zAw,zAx,zAy,zAz,zA0,zA1,zA2,zA3,zA4,zA5,zA6,zA7,zA8,zA9,zBa,zBb,zBc,zBd,zBe,zBf,zBg,zBh,zBi,zBj,zBk,zBl,zBm,zBn,zBo,zBp,zBq,zBr,zBs,zBt,zBu,zBv,zBw,zBx,zBy,zBz,zB0,zB1,zB2,zB3,zB4,zB5,zB6,zB7,zB8,zB9,zCa,zCb,R.bind,OV.val,rd,stl,esc,escs,rds,isTy,truT_n,truT_b,truT_i,truT_l,truT_t,truT_s,truT_d,zCc,zCd,zCe,zCf,zCg,zCh,zCi,zCj,zCk,zCl,zCm,zCn,zCo,zCp,zCq,zCr,zCs,zCt,zCu,bop,blt,zCv,zCw,zCx,zCy,zCz,zC0,zC1,zC2,zC3,R.of,outsE,retR,putR,zC4,zC5,zC6,zC7,zC8,setVs,bindTg,lend,giveBack,ownL,putL,setAt,revD,asInt,List.replicate,hij',c1,c2,ne]) (zDg ?_)
  by_cases hlt : i < j
  · refine zDi (e1 := [.sh (sq k ss), .sh (.int (i : Int)), .sh (.int (j : Int)), .sh A, .sh B, .no]) (by simp [Def.fn,mkF,runF,startE,zAa,zAb,zAc,zAd,zAe,zAf,zAg,zAh,zAi,zAj,zAk,zAl,zAm,zAn,zAo,zAp,zAq,zAr,zAs,zAt,zAu,zAv,zAw,zAx,zAy,zAz,zA0,zA1,zA2,zA3,zA4,zA5,zA6,zA7,zA8,zA9,zBa,zBb,zBc,zBd,zBe,zBf,zBg,zBh,zBi,zBj,zBk,zBl,zBm,zBn,zBo,zBp,zBq,zBr,zBs,zBt,zBu,zBv,zBw,zBx,zBy,zBz,zB0,zB1,zB2,zB3,zB4,zB5,zB6,zB7,zB8,zB9,zCa,zCb,R.bind,OV.val,rd,stl,esc,escs,rds,isTy,truT_n,truT_b,truT_i,truT_l,truT_t,truT_s,truT_d,zCc,zCd,zCe,zCf,zCg,zCh,zCi,zCj,zCk,zCl,zCm,zCn,zCo,zCp,zCq,zCr,zCs,zCt,zCu,bop,blt,zCv,zCw,zCx,zCy,zCz,zC0,zC1,zC2,zC3,R.of,outsE,retR,putR,zC4,zC5,zC6,zC7,zC8,setVs,bindTg,lend,giveBack,ownL,putL,setAt,slcD,revD,asInt,List.replicate,hlt]) (zDj (r := .v (.bool (!s1))) (by simp [Def.fn,mkF,runF,startE,zAa,zAb,zAc,zAd,zAe,zAf,zAg,zAh,zAi,zAj,zAk,zAl,zAm,zAn,zAo,zAp,zAq,zAr,zAs,zAt,zAu,zAv,zAw,zAx,zAy,zAz,zA0,zA1,zA2,zA3,zA4,zA5,zA6,zA7,zA8,zA9,zBa,zBb,zBc,zBd,zBe,zBf,zBg,zBh,zBi,zBj,zBk,zBl,zBm,zBn,zBo,zBp,zBq,zBr,zBs,zBt,zBu,zBv,zBw,zBx,zBy,zBz,zB0,zB1,zB2,zB3,zB4,zB5,zB6,zB7,zB8,zB9,zCa,zCb,R.bind,OV.val,rd,stl,esc,escs,rds,isTy,truT_n,truT_b,truT_i,truT_l,truT_t,truT_s,truT_d,zCc,zCd,zCe,zCf,zCg,zCh,zCi,zCj,zCk,zCl,zCm,zCn,zCo,zCp,zCq,zCr,zCs,zCt,zCu,bop,blt,zCv,zCw,zCx,zCy,zCz,zC0,zC1,zC2,zC3,R.of,outsE,retR,putR,zC4,zC5,zC6,zC7,zC8,setVs,bindTg,lend,giveBack,ownL,putL,setAt,slcD,revD,asInt,List.replicate,h1,hio,q1]; first | done | rfl | exact ⟨rfl, rfl⟩ | (constructor <;> rfl)) (by simp [Def.fn,mkF,runF,startE,zAa,zAb,zAc,zAd,zAe,zAf,zAg,zAh,zAi,zAj,zAk,zAl,zAm,zAn,zAo,zAp,zAq,zAr,zAs,zAt,zAu,zAv,zAw,zAx,zAy,zAz,zA0,zA1,zA2,zA3,zA4,zA5,zA6,zA7,zA8,zA9,zBa,zBb,zBc,zBd,zBe,zBf,zBg,zBh,zBi,zBj,zBk,zBl,zBm,zBn,zBo,zBp,zBq,zBr,zBs,zBt,zBu,zBv,zBw,zBx,zBy,zBz,zB0,zB1,zB2,zB3,zB4,zB5,zB6,zB7,zB8,zB9,zCa,zCb,R.bind,OV.val,rd,stl,esc,escs,rds,isTy,truT_n,truT_b,truT_i,truT_l,truT_t,truT_s,truT_d,zCc,zCd,zCe,zCf,zCg,zCh,zCi,zCj,zCk,zCl,zCm,zCn,zCo,zCp,zCq,zCr,zCs,zCt,zCu,bop,blt,zCv,zCw,zCx,zCy,zCz,zC0,zC1,zC2,zC3,R.of,outsE,retR,putR,zC4,zC5,zC6,zC7,zC8,setVs,bindTg,lend,giveBack,ownL,putL,setAt,slcD,revD,asInt,List.replicate]; first | done | rfl | exact ⟨rfl, rfl⟩ | (constructor <;> rfl)) ?_)
    exact ⟨[], rfl, by simp [hij,hlt], rfl⟩
  · have h1' := hall _ rfl
    refine zDh (e1 := [.sh (sq k ss), .sh (.int (i : Int)), .sh (.int (j : Int)), .sh A, .sh B, .no]) (by simp [Def.fn,mkF,runF,startE,zAa,zAb,zAc,zAd,zAe,zAf,zAg,zAh,zAi,zAj,zAk,zAl,zAm,zAn,zAo,zAp,zAq,zAr,zAs,zAt,zAu,zAv,zAw,zAx,zAy,zAz,zA0,zA1,zA2,zA3,zA4,zA5,zA6,zA7,zA8,zA9,zBa,zBb,zBc,zBd,zBe,zBf,zBg,zBh,zBi,zBj,zBk,zBl,zBm,zBn,zBo,zBp,zBq,zBr,zBs,zBt,zBu,zBv,zBw,zBx,zBy,zBz,zB0,zB1,zB2,zB3,zB4,zB5,zB6,zB7,zB8,zB9,zCa,zCb,R.bind,OV.val,rd,stl,esc,escs,rds,isTy,truT_n,truT_b,truT_i,truT_l,truT_t,truT_s,truT_d,zCc,zCd,zCe,zCf,zCg,zCh,zCi,zCj,zCk,zCl,zCm,zCn,zCo,zCp,zCq,zCr,zCs,zCt,zCu,bop,blt,zCv,zCw,zCx,zCy,zCz,zC0,zC1,zC2,zC3,R.of,outsE,retR,putR,zC4,zC5,zC6,zC7,zC8,setVs,bindTg,lend,giveBack,ownL,putL,setAt,slcD,revD,asInt,List.replicate,hlt]) (zDg (zDj (r := .v (.bool (s2 && am))) (e1 := [.sh (sq k ss), .sh (.int (i : Int)), .sh (.int (j : Int)), .sh A, .sh B, .no]) (by cases s2 <;> simp only [zAk, zAv, zBh, zBg, h1', R.bind] <;> simp [Def.fn,mkF,runF,startE,zAa,zAb,zAc,zAd,zAe,zAf,zAg,zAh,zAi,zAj,zAk,zAl,zAm,zAn,zAo,zAp,zAq,zAr,zAs,zAt,zAu,zAv,zAw,zAx,zAy,zAz,zA0,zA1,zA2,zA3,zA4,zA5,zA6,zA7,zA8,zA9,zBa,zBb,zBc,zBd,zBe,zBf,zBg,zBh,zBi,zBj,zBk,zBl,zBm,zBn,zBo,zBp,zBq,zBr,zBs,zBt,zBu,zBv,zBw,zBx,zBy,zBz,zB0,zB1,zB2,zB3,zB4,zB5,zB6,zB7,zB8,zB9,zCa,zCb,R.bind,OV.val,rd,stl,esc,escs,rds,isTy,truT_n,truT_b,truT_i,truT_l,truT_t,truT_s,truT_d,zCc,zCd,zCe,zCf,zCg,zCh,zCi,zCj,zCk,zCl,zCm,zCn,zCo,zCp,zCq,zCr,zCs,zCt,zCu,bop,blt,zCv,zCw,zCx,zCy,zCz,zC0,zC1,zC2,zC3,R.of,outsE,retR,putR,zC4,zC5,zC6,zC7,zC8,setVs,bindTg,lend,giveBack,ownL,putL,setAt,slcD,revD,asInt,List.replicate,h1,hio,q2,h1']) (by simp [Def.fn,mkF,runF,startE,zAa,zAb,zAc,zAd,zAe,zAf,zAg,zAh,zAi,zAj,zAk,zAl,zAm,zAn,zAo,zAp,zAq,zAr,zAs,zAt,zAu,zAv,zAw,zAx,zAy,zAz,zA0,zA1,zA2,zA3,zA4,zA5,zA6,zA7,zA8,zA9,zBa,zBb,zBc,zBd,zBe,zBf,zBg,zBh,zBi,zBj,zBk,zBl,zBm,zBn,zBo,zBp,zBq,zBr,zBs,zBt,zBu,zBv,zBw,zBx,zBy,zBz,zB0,zB1,zB2,zB3,zB4,zB5,zB6,zB7,zB8,zB9,zCa,zCb,R.bind,OV.val,rd,stl,esc,escs,rds,isTy,truT_n,truT_b,truT_i,truT_l,truT_t,truT_s,truT_d,zCc,zCd,zCe,zCf,zCg,zCh,zCi,zCj,zCk,zCl,zCm,zCn,zCo,zCp,zCq,zCr,zCs,zCt,zCu,bop,blt,zCv,zCw,zCx,zCy,zCz,zC0,zC1,zC2,zC3,R.of,outsE,retR,putR,zC4,zC5,zC6,zC7,zC8,setVs,bindTg,lend,giveBack,ownL,putL,setAt,slcD,revD,asInt,List.replicate]; first | done | rfl | exact ⟨rfl, rfl⟩ | (constructor <;> rfl)) ?_))
    exact ⟨[], rfl, by simp [hij,hlt], rfl⟩
end Bide

set_option pp.maxSteps 400
set_option autoImplicit false
set_option linter.all false
set_option maxRecDepth 100000
set_option maxHeartbeats 4000000
/-! Sets of events that lead (allbide.ways), all sets in the order of their sizes. -/
namespace Bide
open PySem
/-- an ascending row of events -/
structure Asc (n : Int) (l : List Int) : Prop where
  asc : l.Pairwise (· < ·)
  ev : ∀ e ∈ l, 0 ≤ e ∧ e < n
theorem Asc.len {n : Int} {l : List Int} (h : Asc n l) : l.length ≤ n.toNat := by
  have key : ∀ (l : List Int) (a : Int), l.Pairwise (· < ·) → (∀ e ∈ l, a ≤ e ∧ e < n) → l.length ≤ (n - a).toNat := by
    intro l
    induction l with
    | nil => simp
    | cons x r ih =>
      intro a hp hb
      have h1 := hb x (by simp)
      have := ih (x + 1) (List.pairwise_cons.mp hp).2 (fun e he => by
        have := (List.pairwise_cons.mp hp).1 e he
        have := hb e (by simp [he])
        omega)
      simp only [List.length_cons]
      omega
  simpa using key l 0 h.asc h.ev
theorem Asc.at {n : Int} {l : List Int} (h : Asc n l) {i : Nat} (hi : i + 1 < l.length) : tm l (i : Int) < tm l ((i : Int) + 1) := by
  have e1 : tm l (i : Int) = l[i] := by simp [tm,List.getElem?_eq_getElem (show i < l.length by omega)]
  have e2 : tm l ((i : Int) + 1) = l[i + 1] := by
    show (l[((i : Int) + 1).toNat]?).getD 0 = _
    rw [show ((i : Int) + 1).toNat = i + 1 by omega, List.getElem?_eq_getElem hi]
    rfl
  rw [e1, e2]
  exact List.pairwise_iff_getElem.mp h.asc i (i + 1) (by omega) hi (by omega)
/-! ### sets that lead -/
/-! ### all sets of events, in the order of their sizes -/
end Bide

set_option pp.maxSteps 400
set_option autoImplicit false
set_option linter.all false
set_option maxRecDepth 100000
set_option maxHeartbeats 4000000
/-! What leading means. -/
namespace Bide
open PySem
section
variable {E : List Edg} {n : Int} {t1 t2 l : List Int}
end
/-! ### sorted rows -/
theorem Asc.nodup {n : Int} {l : List Int} (h : Asc n l) : l.Nodup := h.asc.imp fun q => by omega
end Bide

set_option pp.maxSteps 400
set_option autoImplicit false
set_option linter.all false
set_option maxRecDepth 100000
set_option maxHeartbeats 4000000
/-! Idle steps: the functions (allbide.idle); heights do not need them. -/
namespace Bide
open PySem
/-! ### why a step is idle -/
def whyI (ss : List Stp) (i : Nat) : Option Nat := (List.range ss.length).find? fun j => idl ss i j
def oN : Option Nat → D
  | none => .none
  | some k => .int (k : Int)
theorem find_here {α : Type} {as pre suf : List α} {x : α} {p : α → Bool} (h : as = pre ++ x :: suf) (hn : ∀ y ∈ pre, p y = false) (hx : p x = true) : as.find? p = some x := by
  rw [h, List.find?_append, List.find?_eq_none.mpr (fun y hy => by rw [hn y hy]; simp)]
  simp [hx]
def Sp_whyidle (F : Fn) : Prop := F.io = [false, false] ∧ ∀ (k : Bool) (ss : List Stp) (i : Nat), ss.length ≤ 1000 → i < ss.length → F.run [sq k ss, .int (i : Int)] = .ok (.v (oN (whyI ss i))) []
theorem whyidle_ok (c : Cf) (h1 : Has c "makes_idle" Sp_mkidle) : Sp_whyidle (D_why_idle.fn c) := by
  obtain ⟨F, g1, o1, r1⟩ := h1
  refine ⟨rfl, fun k ss i hl hi => run_eq rfl ?_⟩
  have l := len_sq k ss
  have hl2 : (ss.length : Int) ≤ 16777216 := by omega
  have hl3 : -4611686018427387904 ≤ (ss.length : Int) := by omega
  simp only [D_why_idle]
  refine wp_for (as := List.range ss.length) (enc := fun (j : Nat) => .int (j : Int)) (fun pre ev => (∀ j ∈ pre, idl ss i j = false) ∧ Fits [some (.sh (sq k ss)), some (.sh (.int (i : Int))), none] ev)
    (by simp [Def.fn,mkF,runF,startE,zAa,zAb,zAc,zAd,zAe,zAf,zAg,zAh,zAi,zAj,zAk,zAl,zAm,zAn,zAo,zAp,zAq,zAr,zAs,zAt,zAu,zAv,zAw,zAx,zAy,zAz,zA0,zA1,zA2,zA3,zA4,zA5,zA6,zA7,zA8,zA9,zBa,zBb,zBc,zBd,zBe,zBf,zBg,zBh,zBi,zBj,zBk,zBl,zBm,zBn,zBo,zBp,zBq,zBr,zBs,zBt,zBu,zBv,zBw,zBx,zBy,zBz,zB0,zB1,zB2,zB3,zB4,zB5,zB6,zB7,zB8,zB9,zCa,zCb,R.bind,OV.val,rd,stl,esc,escs,rds,isTy,truT_n,truT_b,truT_i,truT_l,truT_t,truT_s,truT_d,zCc,zCd,zCe,zCf,zCg,zCh,zCi,zCj,zCk,zCl,zCm,zCn,zCo,zCp,zCq,zCr,zCs,zCt,zCu,bop,blt,zCv,zCw,zCx,zCy,zCz,zC0,zC1,zC2,zC3,R.of,outsE,retR,putR,zC4,zC5,zC6,zC7,zC8,setVs,bindTg,lend,giveBack,ownL,putL,setAt,slcD,revD,asInt,List.replicate,l,line,hl2,hl3,rng0]; first | done | rfl | exact ⟨rfl, rfl⟩ | (constructor <;> rfl)) ⟨by simp, by simp [zDc,zDd,zDe,zC9,zDa,zDb]⟩ ?_ ?_
  · rintro pre j suf has ev ⟨hp, ⟨_, rfl, _, rfl, y2, _, rfl, i2, rfl⟩⟩
    have hj := (preL has).2
    rw [List.mem_range] at hj
    have q := r1 k ss i j hl hi hj
    refine ⟨[.sh (sq k ss), .sh (.int (i : Int)), .sh (.int (j : Int))], by simp [Def.fn,mkF,runF,startE,zAa,zAb,zAc,zAd,zAe,zAf,zAg,zAh,zAi,zAj,zAk,zAl,zAm,zAn,zAo,zAp,zAq,zAr,zAs,zAt,zAu,zAv,zAw,zAx,zAy,zAz,zA0,zA1,zA2,zA3,zA4,zA5,zA6,zA7,zA8,zA9,zBa,zBb,zBc,zBd,zBe,zBf,zBg,zBh,zBi,zBj,zBk,zBl,zBm,zBn,zBo,zBp,zBq,zBr,zBs,zBt,zBu,zBv,zBw,zBx,zBy,zBz,zB0,zB1,zB2,zB3,zB4,zB5,zB6,zB7,zB8,zB9,zCa,zCb,R.bind,OV.val,rd,stl,esc,escs,rds,isTy,truT_n,truT_b,truT_i,truT_l,truT_t,truT_s,truT_d,zCc,zCd,zCe,zCf,zCg,zCh,zCi,zCj,zCk,zCl,zCm,zCn,zCo,zCp,zCq,zCr,zCs,zCt,zCu,bop,blt,zCv,zCw,zCx,zCy,zCz,zC0,zC1,zC2,zC3,R.of,outsE,retR,putR,zC4,zC5,zC6,zC7,zC8,setVs,bindTg,lend,giveBack,ownL,putL,setAt,slcD,revD,asInt,List.replicate,i2], ?_⟩
    cases hx : idl ss i j with
    | true =>
      rw [hx] at q
      have hf : whyI ss i = some j := find_here has hp hx
      refine zDi (e1 := [.sh (sq k ss), .sh (.int (i : Int)), .sh (.int (j : Int))]) (by simp [Def.fn,mkF,runF,startE,zAa,zAb,zAc,zAd,zAe,zAf,zAg,zAh,zAi,zAj,zAk,zAl,zAm,zAn,zAo,zAp,zAq,zAr,zAs,zAt,zAu,zAv,zAw,zAx,zAy,zAz,zA0,zA1,zA2,zA3,zA4,zA5,zA6,zA7,zA8,zA9,zBa,zBb,zBc,zBd,zBe,zBf,zBg,zBh,zBi,zBj,zBk,zBl,zBm,zBn,zBo,zBp,zBq,zBr,zBs,zBt,zBu,zBv,zBw,zBx,zBy,zBz,zB0,zB1,zB2,zB3,zB4,zB5,zB6,zB7,zB8,zB9,zCa,zCb,R.bind,OV.val,rd,stl,esc,escs,rds,isTy,truT_n,truT_b,truT_i,truT_l,truT_t,truT_s,truT_d,zCc,zCd,zCe,zCf,zCg,zCh,zCi,zCj,zCk,zCl,zCm,zCn,zCo,zCp,zCq,zCr,zCs,zCt,zCu,bop,blt,zCv,zCw,zCx,zCy,zCz,zC0,zC1,zC2,zC3,R.of,outsE,retR,putR,zC4,zC5,zC6,zC7,zC8,setVs,bindTg,lend,giveBack,ownL,putL,setAt,slcD,revD,asInt,List.replicate,g1,o1,q]) (zDj (r := .v (.int (j : Int))) (e1 := [.sh (sq k ss), .sh (.int (i : Int)), .sh (.int (j : Int))]) (by simp [Def.fn,mkF,runF,startE,zAa,zAb,zAc,zAd,zAe,zAf,zAg,zAh,zAi,zAj,zAk,zAl,zAm,zAn,zAo,zAp,zAq,zAr,zAs,zAt,zAu,zAv,zAw,zAx,zAy,zAz,zA0,zA1,zA2,zA3,zA4,zA5,zA6,zA7,zA8,zA9,zBa,zBb,zBc,zBd,zBe,zBf,zBg,zBh,zBi,zBj,zBk,zBl,zBm,zBn,zBo,zBp,zBq,zBr,zBs,zBt,zBu,zBv,zBw,zBx,zBy,zBz,zB0,zB1,zB2,zB3,zB4,zB5,zB6,zB7,zB8,zB9,zCa,zCb,R.bind,OV.val,rd,stl,esc,escs,rds,isTy,truT_n,truT_b,truT_i,truT_l,truT_t,truT_s,truT_d,zCc,zCd,zCe,zCf,zCg,zCh,zCi,zCj,zCk,zCl,zCm,zCn,zCo,zCp,zCq,zCr,zCs,zCt,zCu,bop,blt,zCv,zCw,zCx,zCy,zCz,zC0,zC1,zC2,zC3,R.of,outsE,retR,putR,zC4,zC5,zC6,zC7,zC8,setVs,bindTg,lend,giveBack,ownL,putL,setAt,slcD,revD,asInt,List.replicate]) (by simp [Def.fn,mkF,runF,startE,zAa,zAb,zAc,zAd,zAe,zAf,zAg,zAh,zAi,zAj,zAk,zAl,zAm,zAn,zAo,zAp,zAq,zAr,zAs,zAt,zAu,zAv,zAw,zAx,zAy,zAz,zA0,zA1,zA2,zA3,zA4,zA5,zA6,zA7,zA8,zA9,zBa,zBb,zBc,zBd,zBe,zBf,zBg,zBh,zBi,zBj,zBk,zBl,zBm,zBn,zBo,zBp,zBq,zBr,zBs,zBt,zBu,zBv,zBw,zBx,zBy,zBz,zB0,zB1,zB2,zB3,zB4,zB5,zB6,zB7,zB8,zB9,zCa,zCb,R.bind,OV.val,rd,stl,esc,escs,rds,isTy,truT_n,truT_b,truT_i,truT_l,truT_t,truT_s,truT_d,zCc,zCd,zCe,zCf,zCg,zCh,zCi,zCj,zCk,zCl,zCm,zCn,zCo,zCp,zCq,zCr,zCs,zCt,zCu,bop,blt,zCv,zCw,zCx,zCy,zCz,zC0,zC1,zC2,zC3,R.of,outsE,retR,putR,zC4,zC5,zC6,zC7,zC8,setVs,bindTg,lend,giveBack,ownL,putL,setAt,slcD,revD,asInt,List.replicate]; first | done | rfl | exact ⟨rfl, rfl⟩ | (constructor <;> rfl)) ?_)
      exact ⟨[], rfl, by rw [hf]; rfl, rfl⟩
    | false =>
      rw [hx] at q
      refine zDh (e1 := [.sh (sq k ss), .sh (.int (i : Int)), .sh (.int (j : Int))]) (by simp [Def.fn,mkF,runF,startE,zAa,zAb,zAc,zAd,zAe,zAf,zAg,zAh,zAi,zAj,zAk,zAl,zAm,zAn,zAo,zAp,zAq,zAr,zAs,zAt,zAu,zAv,zAw,zAx,zAy,zAz,zA0,zA1,zA2,zA3,zA4,zA5,zA6,zA7,zA8,zA9,zBa,zBb,zBc,zBd,zBe,zBf,zBg,zBh,zBi,zBj,zBk,zBl,zBm,zBn,zBo,zBp,zBq,zBr,zBs,zBt,zBu,zBv,zBw,zBx,zBy,zBz,zB0,zB1,zB2,zB3,zB4,zB5,zB6,zB7,zB8,zB9,zCa,zCb,R.bind,OV.val,rd,stl,esc,escs,rds,isTy,truT_n,truT_b,truT_i,truT_l,truT_t,truT_s,truT_d,zCc,zCd,zCe,zCf,zCg,zCh,zCi,zCj,zCk,zCl,zCm,zCn,zCo,zCp,zCq,zCr,zCs,zCt,zCu,bop,blt,zCv,zCw,zCx,zCy,zCz,zC0,zC1,zC2,zC3,R.of,outsE,retR,putR,zC4,zC5,zC6,zC7,zC8,setVs,bindTg,lend,giveBack,ownL,putL,setAt,slcD,revD,asInt,List.replicate,g1,o1,q]) (zDg (zDg ⟨fun y hy => ?_, by simp [zDc,zDd,zDe,zC9,zDa,zDb]⟩))
      rcases List.mem_append.mp hy with h | h
      · exact hp y h
      · simp at h; rw [h]; exact hx
  · rintro ev ⟨hp, ⟨_, rfl, _, rfl, y2, _, rfl, i2, rfl⟩⟩
    have hf : whyI ss i = none := List.find?_eq_none.mpr fun y hy => by rw [hp y hy]; simp
    refine zDj (r := .v .none) (e1 := [.sh (sq k ss), .sh (.int (i : Int)), y2]) (by simp [Def.fn,mkF,runF,startE,zAa,zAb,zAc,zAd,zAe,zAf,zAg,zAh,zAi,zAj,zAk,zAl,zAm,zAn,zAo,zAp,zAq,zAr,zAs,zAt,zAu,zAv,zAw,zAx,zAy,zAz,zA0,zA1,zA2,zA3,zA4,zA5,zA6,zA7,zA8,zA9,zBa,zBb,zBc,zBd,zBe,zBf,zBg,zBh,zBi,zBj,zBk,zBl,zBm,zBn,zBo,zBp,zBq,zBr,zBs,zBt,zBu,zBv,zBw,zBx,zBy,zBz,zB0,zB1,zB2,zB3,zB4,zB5,zB6,zB7,zB8,zB9,zCa,zCb,R.bind,OV.val,rd,stl,esc,escs,rds,isTy,truT_n,truT_b,truT_i,truT_l,truT_t,truT_s,truT_d,zCc,zCd,zCe,zCf,zCg,zCh,zCi,zCj,zCk,zCl,zCm,zCn,zCo,zCp,zCq,zCr,zCs,zCt,zCu,bop,blt,zCv,zCw,zCx,zCy,zCz,zC0,zC1,zC2,zC3,R.of,outsE,retR,putR,zC4,zC5,zC6,zC7,zC8,setVs,bindTg,lend,giveBack,ownL,putL,setAt,slcD,revD,asInt,List.replicate]) (by simp [Def.fn,mkF,runF,startE,zAa,zAb,zAc,zAd,zAe,zAf,zAg,zAh,zAi,zAj,zAk,zAl,zAm,zAn,zAo,zAp,zAq,zAr,zAs,zAt,zAu,zAv,zAw,zAx,zAy,zAz,zA0,zA1,zA2,zA3,zA4,zA5,zA6,zA7,zA8,zA9,zBa,zBb,zBc,zBd,zBe,zBf,zBg,zBh,zBi,zBj,zBk,zBl,zBm,zBn,zBo,zBp,zBq,zBr,zBs,zBt,zBu,zBv,zBw,zBx,zBy,zBz,zB0,zB1,zB2,zB3,zB4,zB5,zB6,zB7,zB8,zB9,zCa,zCb,R.bind,OV.val,rd,stl,esc,escs,rds,isTy,truT_n,truT_b,truT_i,truT_l,truT_t,truT_s,truT_d,zCc,zCd,zCe,zCf,zCg,zCh,zCi,zCj,zCk,zCl,zCm,zCn,zCo,zCp,zCq,zCr,zCs,zCt,zCu,bop,blt,zCv,zCw,zCx,zCy,zCz,zC0,zC1,zC2,zC3,R.of,outsE,retR,putR,zC4,zC5,zC6,zC7,zC8,setVs,bindTg,lend,giveBack,ownL,putL,setAt,slcD,revD,asInt,List.replicate]; first | done | rfl | exact ⟨rfl, rfl⟩ | (constructor <;> rfl)) ?_
    exact ⟨[], rfl, by rw [hf]; rfl, rfl⟩
def idleL (ss : List Stp) : List Nat := (List.range ss.length).filter fun i => (whyI ss i).isSome
def Sp_idles (F : Fn) : Prop := F.io = [false] ∧ ∀ (ss : List Stp), ss.length ≤ 16 → (∀ s ∈ ss, StpOk s) → F.run [stsD ss] = .ok (.v (.tuple ((idleL ss).map fun (i : Nat) => .int (i : Int)))) []
theorem isN_oN (o : Option Nat) : cop .notN (oN o) .none = some o.isSome := by cases o <;> rfl
theorem idles_ok (c : Cf) (h1 : Has c "check_steps" Sp_csteps) (h2 : Has c "why_idle" Sp_whyidle) : Sp_idles (D_idle_steps.fn c) := by
  obtain ⟨F, g1, o1, r1⟩ := h1
  obtain ⟨G, g2, o2, r2⟩ := h2
  refine ⟨rfl, fun ss hl hs => run_eq rfl ?_⟩
  have l : lenOf (stsD ss) = some ss.length := len_sq true ss
  have q1 := r1 ss hl hs
  have hl2 : (ss.length : Int) ≤ 16777216 := by omega
  have hl3 : -4611686018427387904 ≤ (ss.length : Int) := by omega
  have q2 : ∀ i, i < ss.length → G.run [stsD ss, .int (i : Int)] = .ok (.v (oN (whyI ss i))) [] := fun i hi => r2 true ss i (by omega) hi
  simp only [D_idle_steps]
  have c1 := ev_lcg (c := c) (own := [1]) (tg := [1]) (tup := false) (it := (.rng (.blt .len (.cons (.var 0) .nil)))) (cd := .so (.val (.cmp .notN (.call "why_idle" (.cons (.var 0) (.cons (.var 1) .nil))) .non))) (e := (.var 1)) (ev := [.sh (stsD ss), .no]) (e1 := [.sh (stsD ss), .no]) (w0 := [.sh (stsD ss), .no]) (as := List.range ss.length) (enc := fun (i : Nat) => .int (i : Int)) (p := fun i => (whyI ss i).isSome) (g := fun (i : Nat) => .int (i : Int)) (by simp [Def.fn,mkF,runF,startE,zAa,zAb,zAc,zAd,zAe,zAf,zAg,zAh,zAi,zAj,zAk,zAl,zAm,zAn,zAo,zAp,zAq,zAr,zAs,zAt,zAu,zAv,zAw,zAx,zAy,zAz,zA0,zA1,zA2,zA3,zA4,zA5,zA6,zA7,zA8,zA9,zBa,zBb,zBc,zBd,zBe,zBf,zBg,zBh,zBi,zBj,zBk,zBl,zBm,zBn,zBo,zBp,zBq,zBr,zBs,zBt,zBu,zBv,zBw,zBx,zBy,zBz,zB0,zB1,zB2,zB3,zB4,zB5,zB6,zB7,zB8,zB9,zCa,zCb,R.bind,OV.val,rd,stl,esc,escs,rds,isTy,truT_n,truT_b,truT_i,truT_l,truT_t,truT_s,truT_d,zCc,zCd,zCe,zCf,zCg,zCh,zCi,zCj,zCk,zCl,zCm,zCn,zCo,zCp,zCq,zCr,zCs,zCt,zCu,bop,blt,zCv,zCw,zCx,zCy,zCz,zC0,zC1,zC2,zC3,R.of,outsE,retR,putR,zC4,zC5,zC6,zC7,zC8,setVs,bindTg,lend,giveBack,ownL,putL,setAt,slcD,revD,asInt,List.replicate,l,line,hl2,hl3,rng0]) rfl rfl (fun i hi => by
    have q := q2 i (List.mem_range.mp hi)
    have n := isN_oN (whyI ss i)
    generalize oN (whyI ss i) = O at q n
    exact ⟨[.sh (stsD ss), .sh (.int (i : Int))], by simp [Def.fn,mkF,runF,startE,zAa,zAb,zAc,zAd,zAe,zAf,zAg,zAh,zAi,zAj,zAk,zAl,zAm,zAn,zAo,zAp,zAq,zAr,zAs,zAt,zAu,zAv,zAw,zAx,zAy,zAz,zA0,zA1,zA2,zA3,zA4,zA5,zA6,zA7,zA8,zA9,zBa,zBb,zBc,zBd,zBe,zBf,zBg,zBh,zBi,zBj,zBk,zBl,zBm,zBn,zBo,zBp,zBq,zBr,zBs,zBt,zBu,zBv,zBw,zBx,zBy,zBz,zB0,zB1,zB2,zB3,zB4,zB5,zB6,zB7,zB8,zB9,zCa,zCb,R.bind,OV.val,rd,stl,esc,escs,rds,isTy,truT_n,truT_b,truT_i,truT_l,truT_t,truT_s,truT_d,zCc,zCd,zCe,zCf,zCg,zCh,zCi,zCj,zCk,zCl,zCm,zCn,zCo,zCp,zCq,zCr,zCs,zCt,zCu,bop,blt,zCv,zCw,zCx,zCy,zCz,zC0,zC1,zC2,zC3,R.of,outsE,retR,putR,zC4,zC5,zC6,zC7,zC8,setVs,bindTg,lend,giveBack,ownL,putL,setAt,slcD,revD,asInt,List.replicate], rfl, rfl, by simp only [evC, zBc, zAi, zAv, zAa, zAb, zBh, zBg]; simp [Def.fn,mkF,runF,startE,zAa,zAb,zAc,zAd,zAe,zAf,zAg,zAh,zAi,zAj,zAk,zAl,zAm,zAn,zAo,zAp,zAq,zAr,zAs,zAt,zAu,zAv,zAw,zAx,zAy,zAz,zA0,zA1,zA2,zA3,zA4,zA5,zA6,zA7,zA8,zA9,zBa,zBb,zBc,zBd,zBe,zBf,zBg,zBh,zBi,zBj,zBk,zBl,zBm,zBn,zBo,zBp,zBq,zBr,zBs,zBt,zBu,zBv,zBw,zBx,zBy,zBz,zB0,zB1,zB2,zB3,zB4,zB5,zB6,zB7,zB8,zB9,zCa,zCb,R.bind,OV.val,rd,stl,esc,escs,rds,isTy,truT_n,truT_b,truT_i,truT_l,truT_t,truT_s,truT_d,zCc,zCd,zCe,zCf,zCg,zCh,zCi,zCj,zCk,zCl,zCm,zCn,zCo,zCp,zCq,zCr,zCs,zCt,zCu,bop,blt,zCv,zCw,zCx,zCy,zCz,zC0,zC1,zC2,zC3,R.of,outsE,retR,putR,zC4,zC5,zC6,zC7,zC8,setVs,bindTg,lend,giveBack,ownL,putL,setAt,slcD,revD,asInt,List.replicate,g2,o2,q,n], fun _ => ⟨.v (.int (i : Int)), by simp [Def.fn,mkF,runF,startE,zAa,zAb,zAc,zAd,zAe,zAf,zAg,zAh,zAi,zAj,zAk,zAl,zAm,zAn,zAo,zAp,zAq,zAr,zAs,zAt,zAu,zAv,zAw,zAx,zAy,zAz,zA0,zA1,zA2,zA3,zA4,zA5,zA6,zA7,zA8,zA9,zBa,zBb,zBc,zBd,zBe,zBf,zBg,zBh,zBi,zBj,zBk,zBl,zBm,zBn,zBo,zBp,zBq,zBr,zBs,zBt,zBu,zBv,zBw,zBx,zBy,zBz,zB0,zB1,zB2,zB3,zB4,zB5,zB6,zB7,zB8,zB9,zCa,zCb,R.bind,OV.val,rd,stl,esc,escs,rds,isTy,truT_n,truT_b,truT_i,truT_l,truT_t,truT_s,truT_d,zCc,zCd,zCe,zCf,zCg,zCh,zCi,zCj,zCk,zCl,zCm,zCn,zCo,zCp,zCq,zCr,zCs,zCt,zCu,bop,blt,zCv,zCw,zCx,zCy,zCz,zC0,zC1,zC2,zC3,R.of,outsE,retR,putR,zC4,zC5,zC6,zC7,zC8,setVs,bindTg,lend,giveBack,ownL,putL,setAt,slcD,revD,asInt,List.replicate], by simp [Def.fn,mkF,runF,startE,zAa,zAb,zAc,zAd,zAe,zAf,zAg,zAh,zAi,zAj,zAk,zAl,zAm,zAn,zAo,zAp,zAq,zAr,zAs,zAt,zAu,zAv,zAw,zAx,zAy,zAz,zA0,zA1,zA2,zA3,zA4,zA5,zA6,zA7,zA8,zA9,zBa,zBb,zBc,zBd,zBe,zBf,zBg,zBh,zBi,zBj,zBk,zBl,zBm,zBn,zBo,zBp,zBq,zBr,zBs,zBt,zBu,zBv,zBw,zBx,zBy,zBz,zB0,zB1,zB2,zB3,zB4,zB5,zB6,zB7,zB8,zB9,zCa,zCb,R.bind,OV.val,rd,stl,esc,escs,rds,isTy,truT_n,truT_b,truT_i,truT_l,truT_t,truT_s,truT_d,zCc,zCd,zCe,zCf,zCg,zCh,zCi,zCj,zCk,zCl,zCm,zCn,zCo,zCp,zCq,zCr,zCs,zCt,zCu,bop,blt,zCv,zCw,zCx,zCy,zCz,zC0,zC1,zC2,zC3,R.of,outsE,retR,putR,zC4,zC5,zC6,zC7,zC8,setVs,bindTg,lend,giveBack,ownL,putL,setAt,slcD,revD,asInt,List.replicate]⟩⟩)
  refine zDf (e1 := [.sh (stsD ss), .no]) (by simp [Def.fn,mkF,runF,startE,zAa,zAb,zAc,zAd,zAe,zAf,zAg,zAh,zAi,zAj,zAk,zAl,zAm,zAn,zAo,zAp,zAq,zAr,zAs,zAt,zAu,zAv,zAw,zAx,zAy,zAz,zA0,zA1,zA2,zA3,zA4,zA5,zA6,zA7,zA8,zA9,zBa,zBb,zBc,zBd,zBe,zBf,zBg,zBh,zBi,zBj,zBk,zBl,zBm,zBn,zBo,zBp,zBq,zBr,zBs,zBt,zBu,zBv,zBw,zBx,zBy,zBz,zB0,zB1,zB2,zB3,zB4,zB5,zB6,zB7,zB8,zB9,zCa,zCb,R.bind,OV.val,rd,stl,esc,escs,rds,isTy,truT_n,truT_b,truT_i,truT_l,truT_t,truT_s,truT_d,zCc,zCd,zCe,zCf,zCg,zCh,zCi,zCj,zCk,zCl,zCm,zCn,zCo,zCp,zCq,zCr,zCs,zCt,zCu,bop,blt,zCv,zCw,zCx,zCy,zCz,zC0,zC1,zC2,zC3,R.of,outsE,retR,putR,zC4,zC5,zC6,zC7,zC8,setVs,bindTg,lend,giveBack,ownL,putL,setAt,slcD,revD,asInt,List.replicate,g1,o1,q1]) ?_
  refine zDj (r := .v (.tuple ((idleL ss).map fun (i : Nat) => .int (i : Int)))) (e1 := [.sh (stsD ss), .no]) (by simp [Def.fn,mkF,runF,startE,zAa,zAb,zAc,zAd,zAe,zAf,zAg,zAh,zAi,zAj,zAk,zAl,zAm,zAn,zAo,zAp,zAq,zAr,zAs,zAt,zAu,zAv,zAw,zAx,zAy,zAz,zA0,zA1,zA2,zA3,zA4,zA5,zA6,zA7,zA8,zA9,zBa,zBb,zBc,zBd,zBe,zBf,zBg,zBh,zBi,zBj,zBk,zBl,zBm,zBn,zBo,zBp,zBq,zBr,zBs,zBt,zBu,zBv,zBw,zBx,zBy,zBz,zB0,zB1,zB2,zB3,zB4,zB5,zB6,zB7,zB8,zB9,zCa,zCb,R.bind,OV.val,rd,stl,esc,escs,rds,isTy,truT_n,truT_b,truT_i,truT_l,truT_t,truT_s,truT_d,zCc,zCd,zCe,zCf,zCg,zCh,zCi,zCj,zCk,zCl,zCm,zCn,zCo,zCp,zCq,zCr,zCs,zCt,zCu,bop,blt,zCv,zCw,zCx,zCy,zCz,zC0,zC1,zC2,zC3,R.of,outsE,retR,putR,zC4,zC5,zC6,zC7,zC8,setVs,bindTg,lend,giveBack,ownL,putL,setAt,slcD,revD,asInt,List.replicate,c1,idleL]) (by simp [Def.fn,mkF,runF,startE,zAa,zAb,zAc,zAd,zAe,zAf,zAg,zAh,zAi,zAj,zAk,zAl,zAm,zAn,zAo,zAp,zAq,zAr,zAs,zAt,zAu,zAv,zAw,zAx,zAy,zAz,zA0,zA1,zA2,zA3,zA4,zA5,zA6,zA7,zA8,zA9,zBa,zBb,zBc,zBd,zBe,zBf,zBg,zBh,zBi,zBj,zBk,zBl,zBm,zBn,zBo,zBp,zBq,zBr,zBs,zBt,zBu,zBv,zBw,zBx,zBy,zBz,zB0,zB1,zB2,zB3,zB4,zB5,zB6,zB7,zB8,zB9,zCa,zCb,R.bind,OV.val,rd,stl,esc,escs,rds,isTy,truT_n,truT_b,truT_i,truT_l,truT_t,truT_s,truT_d,zCc,zCd,zCe,zCf,zCg,zCh,zCi,zCj,zCk,zCl,zCm,zCn,zCo,zCp,zCq,zCr,zCs,zCt,zCu,bop,blt,zCv,zCw,zCx,zCy,zCz,zC0,zC1,zC2,zC3,R.of,outsE,retR,putR,zC4,zC5,zC6,zC7,zC8,setVs,bindTg,lend,giveBack,ownL,putL,setAt,slcD,revD,asInt,List.replicate]; first | done | rfl | exact ⟨rfl, rfl⟩ | (constructor <;> rfl)) ?_
  exact ⟨[], rfl, rfl, rfl⟩
/-! ### heights do not need idle steps -/
def sf (b : TB) (ss : List Stp) (e h : Int) : Int := ss.foldl (fun h s => st1 b s e h) h
/-- no round of two is below 0 -/
def Two0 (b : TB) (n : Int) : Prop := ∀ x y d d', 0 ≤ x → x < n → 0 ≤ y → y < n → b x y = some d → b y x = some d' → 0 ≤ d + d'
/-- behind a stronger step, among steps that commute with it, a step does nothing -/
theorem held {b : TB} {n : Int} (h0 : Two0 b n) {s : Stp} {e : Int} (e0 : 0 ≤ e) (e1 : e < n) : ∀ (B : List Stp), (∀ z ∈ B, (0 ≤ z.2.1 ∧ z.2.1 < n) ∧ comm s z = true) → ∀ x, st1 b s e x = x → st1 b s e (sf b B e x) = sf b B e x
  | [], _, _, h => h
  | z :: B, hB, x, h => by
    refine held h0 e0 e1 B (fun y hy => hB y (by simp [hy])) (st1 b z e x) ?_
    obtain ⟨⟨z0, z1⟩, hc⟩ := hB z (by simp)
    obtain ⟨k, v, t⟩ := s
    obtain ⟨k', v', t'⟩ := z
    unfold comm at hc
    simp only at hc z0 z1
    cases k <;> cases k'
    · simp only [st1, Bool.false_eq_true, if_false] at h ⊢
      split at h <;> (repeat' split at h) <;> (repeat' split) <;> omega
    · simp only [Bool.false_eq_true, if_false, Bool.and_eq_true, decide_eq_true_eq] at hc
      obtain ⟨rfl, ht⟩ := by simpa using hc
      simp only [st1, Bool.false_eq_true, if_false, if_true] at h ⊢
      cases h1 : b v' e with
      | none => simp
      | some d =>
        rw [h1] at h
        cases h2 : b e v' with
        | none => simpa using h
        | some d' =>
          have := h0 v' e d d' z0 z1 e0 e1 h1 h2
          simp only at h ⊢
          split at h <;> split <;> (try split) <;> omega
    · simp only [Bool.true_eq_false, if_false, if_true, Bool.and_eq_true, decide_eq_true_eq] at hc
      obtain ⟨rfl, ht⟩ := by simpa using hc
      simp only [st1, Bool.false_eq_true, if_false, if_true] at h ⊢
      cases h1 : b e v with
      | none => simp
      | some d =>
        rw [h1] at h
        cases h2 : b v e with
        | none => simpa using h
        | some d' =>
          have := h0 e v d d' e0 e1 z0 z1 h1 h2
          simp only at h ⊢
          split at h <;> split <;> (try split) <;> omega
    · simp only [st1, if_true] at h ⊢
      split at h <;> (repeat' split at h) <;> (repeat' split) <;> omega
end Bide

set_option pp.maxSteps 400
set_option autoImplicit false
set_option linter.all false
set_option maxRecDepth 100000
set_option maxHeartbeats 4000000
/-! Drawn steps. -/
namespace Bide
open PySem
theorem gd_ints {l : List Nat} (h : l.length ≤ 1000) (m : Nat) : gd (m + 2) (.tuple (l.map fun (i : Nat) => (.int (i : Int) : D))) = true := by
  refine gd_tup (by rw [List.length_map]; exact h) fun d hd => ?_
  obtain ⟨p, _, rfl⟩ := List.mem_map.mp hd
  rfl
theorem ne_self {m : Nat} {d : D} (hm : m ≤ 60) (h : gd m d = true) : cop .ne d d = some false := by
  rw [cop_neD (shp12 hm h) (shp12 hm h), eqv_gd m d h]
  rfl
end Bide

set_option autoImplicit false
set_option linter.all false
/-! A comprehension over a list that its name keeps. -/
namespace Bide
open PySem
theorem ev_lcog {α : Type} {c : Cf} {own tg : List Nat} {tup : Bool} {i : Nat} {cd : C} {e : E} {ev w0 : Ev} {as : List α} {enc : α → D} {p : α → Bool} {g : α → D} (hs : ev[i]? = some (.ow (.l (as.map enc)))) (hw : wipeE (ev.set i .no) own = some w0) (hu : unwipe (ev.set i .no) (ev.set i .no) own = ev.set i .no)
    (h : ∀ a ∈ as, ∃ e2, bindTg tup tg w0 (enc a) = some e2 ∧ wipeE e2 own = some w0 ∧ unwipe (ev.set i .no) e2 own = ev.set i .no ∧ evC c cd e2 = .ok (p a) e2 ∧ (p a = true → ∃ r, evE c e e2 = .ok r e2 ∧ esc e2 r = some (g a, e2))) :
    evE c (.lco own tg tup i cd e) ev = .ok (.f (.l ((as.filter p).map g))) ev := by
  obtain ⟨e', ⟨q1, q1'⟩, q2⟩ := lcL_gen (t := evC c cd) (f := evE c e) (own := own) (tg := tg) (tup := tup) (enc := enc) (p := p) (g := g) (w0 := w0) (ok := fun e => wipeE e own = some w0 ∧ unwipe (ev.set i .no) e own = ev.set i .no) (fun e h => h.1) as [] (ev.set i .no) ⟨hw, hu⟩ (fun a ha => by
    obtain ⟨e2, h1, h2, h3, h4⟩ := h a ha
    exact ⟨e2, h1, ⟨h2, h3⟩, h4⟩)
  have hi : i < ev.length := (List.getElem?_eq_some_iff.mp hs).1
  have e1 : (ev.set i .no)[i]? = some .no := List.getElem?_set_self hi
  have e2 : (ev.set i SV.no).set i (.ow (.l (as.map enc))) = ev := by
    rw [List.set_set]
    apply List.ext_getElem?
    intro j
    by_cases hj : i = j
    · subst hj
      rw [List.getElem?_set_self hi, hs]
    · rw [List.getElem?_set_ne hj]
  simp only [evE, hs, hw, q2, q1', e1, e2]
  simp
theorem ev_lcogn {α : Type} {c : Cf} {own tg : List Nat} {tup : Bool} {i : Nat} {e : E} {ev w0 : Ev} {as : List α} {enc : α → D} {g : α → D} (hs : ev[i]? = some (.ow (.l (as.map enc)))) (hw : wipeE (ev.set i .no) own = some w0) (hu : unwipe (ev.set i .no) (ev.set i .no) own = ev.set i .no)
    (h : ∀ a ∈ as, ∃ e2, bindTg tup tg w0 (enc a) = some e2 ∧ wipeE e2 own = some w0 ∧ unwipe (ev.set i .no) e2 own = ev.set i .no ∧ (∃ r, evE c e e2 = .ok r e2 ∧ esc e2 r = some (g a, e2))) :
    evE c (.lco own tg tup i .no e) ev = .ok (.f (.l (as.map g))) ev := by
  have := ev_lcog (c := c) (cd := .no) (e := e) (p := fun _ => true) (g := g) hs hw hu (fun a ha => by
    obtain ⟨e2, h1, h2, h3, h4⟩ := h a ha
    exact ⟨e2, h1, h2, h3, rfl, fun _ => h4⟩)
  rw [List.filter_eq_self.mpr (by simp)] at this
  exact this
end Bide

set_option pp.maxSteps 400
set_option autoImplicit false
set_option linter.all false
set_option maxRecDepth 100000
set_option maxHeartbeats 4000000
/-! Reductions of steps. -/
namespace Bide
open PySem
theorem whyI_some {ss : List Stp} {i j : Nat} (h : whyI ss i = some j) : j < ss.length ∧ idl ss i j = true := by
  have h1 := List.mem_of_find?_eq_some h
  have h2 := List.find?_some h
  exact ⟨List.mem_range.mp h1, h2⟩
/-- the first idle step, and the first one by which it is -/
def firstI (ss : List Stp) : Option (Nat × Nat) := (List.range ss.length).findSome? fun i => (whyI ss i).map fun j => (i, j)
theorem firstI_some {ss : List Stp} {a b : Nat} (h : firstI ss = some (a, b)) : a < ss.length ∧ b < ss.length ∧ idl ss a b = true := by
  obtain ⟨x, hx, he⟩ := List.exists_of_findSome?_eq_some h
  obtain ⟨j, hj, e⟩ := Option.map_eq_some_iff.mp he
  cases e
  exact ⟨List.mem_range.mp hx, whyI_some hj⟩
def oP : Option (Nat × Nat) → D
  | none => .none
  | some p => .tuple [.int (p.1 : Int), .int (p.2 : Int)]
def Sp_first (F : Fn) : Prop := F.io = [false] ∧ ∀ (k : Bool) (ss : List Stp), ss.length ≤ 1000 → F.run [sq k ss] = .ok (.v (oP (firstI ss))) []
theorem findSome_here {α β : Type} {as pre suf : List α} {x : α} {f : α → Option β} {y : β} (h : as = pre ++ x :: suf) (hn : ∀ z ∈ pre, f z = none) (hx : f x = some y) : as.findSome? f = some y := by
  rw [h, List.findSome?_append, List.findSome?_eq_none_iff.mpr hn]
  simp [hx]
theorem first_ok (c : Cf) (h1 : Has c "why_idle" Sp_whyidle) : Sp_first (D_first_idle.fn c) := by
  obtain ⟨F, g1, o1, r1⟩ := h1
  refine ⟨rfl, fun k ss hl => run_eq rfl ?_⟩
  have l := len_sq k ss
  have hl2 : (ss.length : Int) ≤ 16777216 := by omega
  have hl3 : -4611686018427387904 ≤ (ss.length : Int) := by omega
  simp only [D_first_idle]
  refine wp_for (as := List.range ss.length) (enc := fun (j : Nat) => .int (j : Int)) (fun pre ev => (∀ i ∈ pre, whyI ss i = none) ∧ Fits [some (.sh (sq k ss)), none, none] ev)
    (by simp [Def.fn,mkF,runF,startE,zAa,zAb,zAc,zAd,zAe,zAf,zAg,zAh,zAi,zAj,zAk,zAl,zAm,zAn,zAo,zAp,zAq,zAr,zAs,zAt,zAu,zAv,zAw,zAx,zAy,zAz,zA0,zA1,zA2,zA3,zA4,zA5,zA6,zA7,zA8,zA9,zBa,zBb,zBc,zBd,zBe,zBf,zBg,zBh,zBi,zBj,zBk,zBl,zBm,zBn,zBo,zBp,zBq,zBr,zBs,zBt,zBu,zBv,zBw,zBx,zBy,zBz,zB0,zB1,zB2,zB3,zB4,zB5,zB6,zB7,zB8,zB9,zCa,zCb,R.bind,OV.val,rd,stl,esc,escs,rds,isTy,truT_n,truT_b,truT_i,truT_l,truT_t,truT_s,truT_d,zCc,zCd,zCe,zCf,zCg,zCh,zCi,zCj,zCk,zCl,zCm,zCn,zCo,zCp,zCq,zCr,zCs,zCt,zCu,bop,blt,zCv,zCw,zCx,zCy,zCz,zC0,zC1,zC2,zC3,R.of,outsE,retR,putR,zC4,zC5,zC6,zC7,zC8,setVs,bindTg,lend,giveBack,ownL,putL,setAt,slcD,revD,asInt,List.replicate,l,line,hl2,hl3,rng0]; first | done | rfl | exact ⟨rfl, rfl⟩ | (constructor <;> rfl)) ⟨by simp, by simp [zDc,zDd,zDe,zC9,zDa,zDb]⟩ ?_ ?_
  · rintro pre i suf has ev ⟨hp, ⟨_, rfl, y1, _, rfl, i1, y2, _, rfl, i2, rfl⟩⟩
    have hi := (preL has).2
    rw [List.mem_range] at hi
    have q := r1 k ss i hl hi
    have n := isN_oN (whyI ss i)
    refine ⟨[.sh (sq k ss), .sh (.int (i : Int)), y2], by simp [Def.fn,mkF,runF,startE,zAa,zAb,zAc,zAd,zAe,zAf,zAg,zAh,zAi,zAj,zAk,zAl,zAm,zAn,zAo,zAp,zAq,zAr,zAs,zAt,zAu,zAv,zAw,zAx,zAy,zAz,zA0,zA1,zA2,zA3,zA4,zA5,zA6,zA7,zA8,zA9,zBa,zBb,zBc,zBd,zBe,zBf,zBg,zBh,zBi,zBj,zBk,zBl,zBm,zBn,zBo,zBp,zBq,zBr,zBs,zBt,zBu,zBv,zBw,zBx,zBy,zBz,zB0,zB1,zB2,zB3,zB4,zB5,zB6,zB7,zB8,zB9,zCa,zCb,R.bind,OV.val,rd,stl,esc,escs,rds,isTy,truT_n,truT_b,truT_i,truT_l,truT_t,truT_s,truT_d,zCc,zCd,zCe,zCf,zCg,zCh,zCi,zCj,zCk,zCl,zCm,zCn,zCo,zCp,zCq,zCr,zCs,zCt,zCu,bop,blt,zCv,zCw,zCx,zCy,zCz,zC0,zC1,zC2,zC3,R.of,outsE,retR,putR,zC4,zC5,zC6,zC7,zC8,setVs,bindTg,lend,giveBack,ownL,putL,setAt,slcD,revD,asInt,List.replicate,i1], ?_⟩
    refine zDf (e1 := [.sh (sq k ss), .sh (.int (i : Int)), .sh (oN (whyI ss i))]) (by simp [Def.fn,mkF,runF,startE,zAa,zAb,zAc,zAd,zAe,zAf,zAg,zAh,zAi,zAj,zAk,zAl,zAm,zAn,zAo,zAp,zAq,zAr,zAs,zAt,zAu,zAv,zAw,zAx,zAy,zAz,zA0,zA1,zA2,zA3,zA4,zA5,zA6,zA7,zA8,zA9,zBa,zBb,zBc,zBd,zBe,zBf,zBg,zBh,zBi,zBj,zBk,zBl,zBm,zBn,zBo,zBp,zBq,zBr,zBs,zBt,zBu,zBv,zBw,zBx,zBy,zBz,zB0,zB1,zB2,zB3,zB4,zB5,zB6,zB7,zB8,zB9,zCa,zCb,R.bind,OV.val,rd,stl,esc,escs,rds,isTy,truT_n,truT_b,truT_i,truT_l,truT_t,truT_s,truT_d,zCc,zCd,zCe,zCf,zCg,zCh,zCi,zCj,zCk,zCl,zCm,zCn,zCo,zCp,zCq,zCr,zCs,zCt,zCu,bop,blt,zCv,zCw,zCx,zCy,zCz,zC0,zC1,zC2,zC3,R.of,outsE,retR,putR,zC4,zC5,zC6,zC7,zC8,setVs,bindTg,lend,giveBack,ownL,putL,setAt,slcD,revD,asInt,List.replicate,g1,o1,q,i2]) ?_
    cases hx : whyI ss i with
    | some j =>
      have hf : firstI ss = some (i, j) := findSome_here has (fun z hz => by rw [hp z hz]; rfl) (by rw [hx]; rfl)
      refine zDi (e1 := [.sh (sq k ss), .sh (.int (i : Int)), .sh (.int (j : Int))]) (by simp [Def.fn,mkF,runF,startE,zAa,zAb,zAc,zAd,zAe,zAf,zAg,zAh,zAi,zAj,zAk,zAl,zAm,zAn,zAo,zAp,zAq,zAr,zAs,zAt,zAu,zAv,zAw,zAx,zAy,zAz,zA0,zA1,zA2,zA3,zA4,zA5,zA6,zA7,zA8,zA9,zBa,zBb,zBc,zBd,zBe,zBf,zBg,zBh,zBi,zBj,zBk,zBl,zBm,zBn,zBo,zBp,zBq,zBr,zBs,zBt,zBu,zBv,zBw,zBx,zBy,zBz,zB0,zB1,zB2,zB3,zB4,zB5,zB6,zB7,zB8,zB9,zCa,zCb,R.bind,OV.val,rd,stl,esc,escs,rds,isTy,truT_n,truT_b,truT_i,truT_l,truT_t,truT_s,truT_d,zCc,zCd,zCe,zCf,zCg,zCh,zCi,zCj,zCk,zCl,zCm,zCn,zCo,zCp,zCq,zCr,zCs,zCt,zCu,bop,blt,zCv,zCw,zCx,zCy,zCz,zC0,zC1,zC2,zC3,R.of,outsE,retR,putR,zC4,zC5,zC6,zC7,zC8,setVs,bindTg,lend,giveBack,ownL,putL,setAt,slcD,revD,asInt,List.replicate,oN,isNone]) (zDj (r := .v (.tuple [.int (i : Int), .int (j : Int)])) (e1 := [.sh (sq k ss), .sh (.int (i : Int)), .sh (.int (j : Int))]) (by simp [Def.fn,mkF,runF,startE,zAa,zAb,zAc,zAd,zAe,zAf,zAg,zAh,zAi,zAj,zAk,zAl,zAm,zAn,zAo,zAp,zAq,zAr,zAs,zAt,zAu,zAv,zAw,zAx,zAy,zAz,zA0,zA1,zA2,zA3,zA4,zA5,zA6,zA7,zA8,zA9,zBa,zBb,zBc,zBd,zBe,zBf,zBg,zBh,zBi,zBj,zBk,zBl,zBm,zBn,zBo,zBp,zBq,zBr,zBs,zBt,zBu,zBv,zBw,zBx,zBy,zBz,zB0,zB1,zB2,zB3,zB4,zB5,zB6,zB7,zB8,zB9,zCa,zCb,R.bind,OV.val,rd,stl,esc,escs,rds,isTy,truT_n,truT_b,truT_i,truT_l,truT_t,truT_s,truT_d,zCc,zCd,zCe,zCf,zCg,zCh,zCi,zCj,zCk,zCl,zCm,zCn,zCo,zCp,zCq,zCr,zCs,zCt,zCu,bop,blt,zCv,zCw,zCx,zCy,zCz,zC0,zC1,zC2,zC3,R.of,outsE,retR,putR,zC4,zC5,zC6,zC7,zC8,setVs,bindTg,lend,giveBack,ownL,putL,setAt,slcD,revD,asInt,List.replicate,line]) (by simp [Def.fn,mkF,runF,startE,zAa,zAb,zAc,zAd,zAe,zAf,zAg,zAh,zAi,zAj,zAk,zAl,zAm,zAn,zAo,zAp,zAq,zAr,zAs,zAt,zAu,zAv,zAw,zAx,zAy,zAz,zA0,zA1,zA2,zA3,zA4,zA5,zA6,zA7,zA8,zA9,zBa,zBb,zBc,zBd,zBe,zBf,zBg,zBh,zBi,zBj,zBk,zBl,zBm,zBn,zBo,zBp,zBq,zBr,zBs,zBt,zBu,zBv,zBw,zBx,zBy,zBz,zB0,zB1,zB2,zB3,zB4,zB5,zB6,zB7,zB8,zB9,zCa,zCb,R.bind,OV.val,rd,stl,esc,escs,rds,isTy,truT_n,truT_b,truT_i,truT_l,truT_t,truT_s,truT_d,zCc,zCd,zCe,zCf,zCg,zCh,zCi,zCj,zCk,zCl,zCm,zCn,zCo,zCp,zCq,zCr,zCs,zCt,zCu,bop,blt,zCv,zCw,zCx,zCy,zCz,zC0,zC1,zC2,zC3,R.of,outsE,retR,putR,zC4,zC5,zC6,zC7,zC8,setVs,bindTg,lend,giveBack,ownL,putL,setAt,slcD,revD,asInt,List.replicate]; first | done | rfl | exact ⟨rfl, rfl⟩ | (constructor <;> rfl)) ?_)
      exact ⟨[], rfl, by rw [hf]; rfl, rfl⟩
    | none =>
      refine zDh (e1 := [.sh (sq k ss), .sh (.int (i : Int)), .sh .none]) (by simp [Def.fn,mkF,runF,startE,zAa,zAb,zAc,zAd,zAe,zAf,zAg,zAh,zAi,zAj,zAk,zAl,zAm,zAn,zAo,zAp,zAq,zAr,zAs,zAt,zAu,zAv,zAw,zAx,zAy,zAz,zA0,zA1,zA2,zA3,zA4,zA5,zA6,zA7,zA8,zA9,zBa,zBb,zBc,zBd,zBe,zBf,zBg,zBh,zBi,zBj,zBk,zBl,zBm,zBn,zBo,zBp,zBq,zBr,zBs,zBt,zBu,zBv,zBw,zBx,zBy,zBz,zB0,zB1,zB2,zB3,zB4,zB5,zB6,zB7,zB8,zB9,zCa,zCb,R.bind,OV.val,rd,stl,esc,escs,rds,isTy,truT_n,truT_b,truT_i,truT_l,truT_t,truT_s,truT_d,zCc,zCd,zCe,zCf,zCg,zCh,zCi,zCj,zCk,zCl,zCm,zCn,zCo,zCp,zCq,zCr,zCs,zCt,zCu,bop,blt,zCv,zCw,zCx,zCy,zCz,zC0,zC1,zC2,zC3,R.of,outsE,retR,putR,zC4,zC5,zC6,zC7,zC8,setVs,bindTg,lend,giveBack,ownL,putL,setAt,slcD,revD,asInt,List.replicate,oN,isNone]) (zDg (zDg ⟨fun y hy => ?_, by simp [zDc,zDd,zDe,zC9,zDa,zDb]⟩))
      rcases List.mem_append.mp hy with h | h
      · exact hp y h
      · simp at h; rw [h]; exact hx
  · rintro ev ⟨hp, ⟨_, rfl, y1, _, rfl, i1, y2, _, rfl, i2, rfl⟩⟩
    have hf : firstI ss = none := List.findSome?_eq_none_iff.mpr fun y hy => by rw [hp y hy]; rfl
    refine zDj (r := .v .none) (e1 := [.sh (sq k ss), y1, y2]) (by simp [Def.fn,mkF,runF,startE,zAa,zAb,zAc,zAd,zAe,zAf,zAg,zAh,zAi,zAj,zAk,zAl,zAm,zAn,zAo,zAp,zAq,zAr,zAs,zAt,zAu,zAv,zAw,zAx,zAy,zAz,zA0,zA1,zA2,zA3,zA4,zA5,zA6,zA7,zA8,zA9,zBa,zBb,zBc,zBd,zBe,zBf,zBg,zBh,zBi,zBj,zBk,zBl,zBm,zBn,zBo,zBp,zBq,zBr,zBs,zBt,zBu,zBv,zBw,zBx,zBy,zBz,zB0,zB1,zB2,zB3,zB4,zB5,zB6,zB7,zB8,zB9,zCa,zCb,R.bind,OV.val,rd,stl,esc,escs,rds,isTy,truT_n,truT_b,truT_i,truT_l,truT_t,truT_s,truT_d,zCc,zCd,zCe,zCf,zCg,zCh,zCi,zCj,zCk,zCl,zCm,zCn,zCo,zCp,zCq,zCr,zCs,zCt,zCu,bop,blt,zCv,zCw,zCx,zCy,zCz,zC0,zC1,zC2,zC3,R.of,outsE,retR,putR,zC4,zC5,zC6,zC7,zC8,setVs,bindTg,lend,giveBack,ownL,putL,setAt,slcD,revD,asInt,List.replicate]) (by simp [Def.fn,mkF,runF,startE,zAa,zAb,zAc,zAd,zAe,zAf,zAg,zAh,zAi,zAj,zAk,zAl,zAm,zAn,zAo,zAp,zAq,zAr,zAs,zAt,zAu,zAv,zAw,zAx,zAy,zAz,zA0,zA1,zA2,zA3,zA4,zA5,zA6,zA7,zA8,zA9,zBa,zBb,zBc,zBd,zBe,zBf,zBg,zBh,zBi,zBj,zBk,zBl,zBm,zBn,zBo,zBp,zBq,zBr,zBs,zBt,zBu,zBv,zBw,zBx,zBy,zBz,zB0,zB1,zB2,zB3,zB4,zB5,zB6,zB7,zB8,zB9,zCa,zCb,R.bind,OV.val,rd,stl,esc,escs,rds,isTy,truT_n,truT_b,truT_i,truT_l,truT_t,truT_s,truT_d,zCc,zCd,zCe,zCf,zCg,zCh,zCi,zCj,zCk,zCl,zCm,zCn,zCo,zCp,zCq,zCr,zCs,zCt,zCu,bop,blt,zCv,zCw,zCx,zCy,zCz,zC0,zC1,zC2,zC3,R.of,outsE,retR,putR,zC4,zC5,zC6,zC7,zC8,setVs,bindTg,lend,giveBack,ownL,putL,setAt,slcD,revD,asInt,List.replicate]; first | done | rfl | exact ⟨rfl, rfl⟩ | (constructor <;> rfl)) ?_
    exact ⟨[], rfl, by rw [hf]; rfl, rfl⟩
/-! ### what is left -/
def intsR (m : Nat) : List Int := (List.range m).map fun (i : Nat) => (i : Int)
def hereL (ss : List Stp) (L : List Int) : List Stp := L.map fun i => gS ss i.toNat
structure LOk (m : Nat) (L : List Int) : Prop where
  nd : L.Nodup
  rg : ∀ i ∈ L, 0 ≤ i ∧ i < (m : Int)
theorem lOk_R (m : Nat) : LOk m (intsR m) := by
  refine ⟨?_, fun i hi => ?_⟩
  · unfold intsR
    exact List.pairwise_map.mpr (List.nodup_range.imp fun h q => h (by omega))
  · obtain ⟨j, hj, rfl⟩ := List.mem_map.mp hi
    rw [List.mem_range] at hj
    omega
theorem LOk.len {m : Nat} {L : List Int} (h : LOk m L) : L.length ≤ m := by
  have := nodup_sub (L := intsR m) h.nd (fun i hi => List.mem_map.mpr ⟨i.toNat, by have := h.rg i hi; rw [List.mem_range]; omega, by have := h.rg i hi; omega⟩)
  simpa [intsR] using this
theorem LOk.erase {m : Nat} {L : List Int} (h : LOk m L) (a : Nat) : LOk m (L.eraseIdx a) := ⟨h.nd.sublist (List.eraseIdx_sublist ..), fun i hi => h.rg i (List.mem_of_mem_eraseIdx hi)⟩
theorem hereL_len (ss : List Stp) (L : List Int) : (hereL ss L).length = L.length := by simp [hereL]
def one (ss : List Stp) (s : List (Int × Int) × List Int) : List (Int × Int) × List Int := match firstI (hereL ss s.2) with
  | none => s
  | some (a, b) => (s.1 ++ [(tm s.2 (a : Int), tm s.2 (b : Int))], s.2.eraseIdx a)
def redn (ss : List Stp) : Nat → List (Int × Int) × List Int
  | 0 => ([], intsR ss.length)
  | t + 1 => one ss (redn ss t)
def red (ss : List Stp) : List (Int × Int) × List Int := redn ss ss.length
theorem redn_ok (ss : List Stp) : ∀ t, LOk ss.length (redn ss t).2
  | 0 => lOk_R _
  | t + 1 => by
    have := redn_ok ss t
    show LOk ss.length (one ss (redn ss t)).2
    unfold one
    split
    · exact this
    · exact this.erase _
theorem redn_fix {ss : List Stp} {t : Nat} (h : firstI (hereL ss (redn ss t).2) = none) : ∀ m, redn ss (t + m) = redn ss t
  | 0 => rfl
  | m + 1 => by
    show one ss (redn ss (t + m)) = _
    rw [redn_fix h m]
    unfold one
    rw [h]
theorem redn_cnt (ss : List Stp) : ∀ t, (redn ss t).1.length + (redn ss t).2.length = ss.length ∧ (firstI (hereL ss (redn ss t).2) ≠ none → (redn ss t).1.length = t)
  | 0 => by simp [redn,intsR]
  | t + 1 => by
    obtain ⟨h1, h2⟩ := redn_cnt ss t
    show (one ss (redn ss t)).1.length + (one ss (redn ss t)).2.length = ss.length ∧ (firstI (hereL ss (one ss (redn ss t)).2) ≠ none → (one ss (redn ss t)).1.length = t + 1)
    unfold one
    cases hq : firstI (hereL ss (redn ss t).2) with
    | none =>
      refine ⟨h1, fun h => absurd hq h⟩
    | some p =>
      obtain ⟨a, b⟩ := p
      have ha := (firstI_some hq).1
      rw [hereL_len] at ha
      have := h2 (by rw [hq]; simp)
      simp only [List.length_append, List.length_cons, List.length_nil]
      refine ⟨?_, fun _ => by omega⟩
      rw [List.length_eraseIdx_of_lt ha]
      omega
theorem map_erase {α β : Type} (f : α → β) : ∀ (l : List α) (k : Nat), (l.map f).eraseIdx k = (l.eraseIdx k).map f
  | [], _ => by simp
  | _ :: _, 0 => by simp
  | x :: l, k + 1 => by simp [map_erase f l k]
theorem tm_at {L : List Int} {a : Nat} (h : a < L.length) : tm L (a : Int) = L[a] := by simp [tm,List.getElem?_eq_getElem h]
theorem at_left {k : Bool} {ss : List Stp} {i : Int} (h : 0 ≤ i ∧ i < (ss.length : Int)) : idxD (sq k ss) (.int i) = some (stD (gS ss i.toNat)) := by
  have := at_sts (k := k) (ss := ss) (i := i.toNat) (by omega)
  rwa [show ((i.toNat : Nat) : Int) = i by omega] at this
def Sp_redof (F : Fn) : Prop := F.io = [false] ∧ ∀ (ss : List Stp), ss.length ≤ 1000 → F.run [stsD ss] = .ok (.v (.tuple [.tuple ((red ss).1.map pkD), .list ((red ss).2.map PyData.int)])) []
theorem redof_ok (c : Cf) (h1 : Has c "first_idle" Sp_first) : Sp_redof (D_reduction_of.fn c) := by
  obtain ⟨F, g1, o1, r1⟩ := h1
  refine ⟨rfl, fun ss hl => run_eq rfl ?_⟩
  have l : lenOf (stsD ss) = some ss.length := len_sq true ss
  have al : ∀ i : Int, 0 ≤ i ∧ i < (ss.length : Int) → idxD (stsD ss) (.int i) = some (stD (gS ss i.toNat)) := fun i h => at_left (k := true) h
  have hl2 : (ss.length : Int) ≤ 16777216 := by omega
  have hl3 : -4611686018427387904 ≤ (ss.length : Int) := by omega
  obtain ⟨SS, hSS⟩ : ∃ SS, SS = stsD ss := ⟨_, rfl⟩
  show wp c D_reduction_of.body [.sh (stsD ss), .no, .no, .no, .no] _
  rw [← hSS] at l al ⊢
  simp only [D_reduction_of]
  have hr : rngD 0 ss.length = (intsR ss.length).map PyData.int := by rw [rng0, intsR, List.map_map]; rfl
  refine zDf (e1 := [.sh SS, .ow (.l ((intsR ss.length).map PyData.int)), .no, .no, .no]) (by simp [Def.fn,mkF,runF,startE,zAa,zAb,zAc,zAd,zAe,zAf,zAg,zAh,zAi,zAj,zAk,zAl,zAm,zAn,zAo,zAp,zAq,zAr,zAs,zAt,zAu,zAv,zAw,zAx,zAy,zAz,zA0,zA1,zA2,zA3,zA4,zA5,zA6,zA7,zA8,zA9,zBa,zBb,zBc,zBd,zBe,zBf,zBg,zBh,zBi,zBj,zBk,zBl,zBm,zBn,zBo,zBp,zBq,zBr,zBs,zBt,zBu,zBv,zBw,zBx,zBy,zBz,zB0,zB1,zB2,zB3,zB4,zB5,zB6,zB7,zB8,zB9,zCa,zCb,R.bind,OV.val,rd,stl,esc,escs,rds,isTy,truT_n,truT_b,truT_i,truT_l,truT_t,truT_s,truT_d,zCc,zCd,zCe,zCf,zCg,zCh,zCi,zCj,zCk,zCl,zCm,zCn,zCo,zCp,zCq,zCr,zCs,zCt,zCu,bop,blt,zCv,zCw,zCx,zCy,zCz,zC0,zC1,zC2,zC3,R.of,outsE,retR,putR,zC4,zC5,zC6,zC7,zC8,setVs,bindTg,lend,giveBack,ownL,putL,setAt,slcD,revD,asInt,List.replicate,l,line,hl2,hl3,hr]) ?_
  refine zDf (e1 := [.sh SS, .ow (.l ((intsR ss.length).map PyData.int)), .ow (.l []), .no, .no]) (by simp [Def.fn,mkF,runF,startE,zAa,zAb,zAc,zAd,zAe,zAf,zAg,zAh,zAi,zAj,zAk,zAl,zAm,zAn,zAo,zAp,zAq,zAr,zAs,zAt,zAu,zAv,zAw,zAx,zAy,zAz,zA0,zA1,zA2,zA3,zA4,zA5,zA6,zA7,zA8,zA9,zBa,zBb,zBc,zBd,zBe,zBf,zBg,zBh,zBi,zBj,zBk,zBl,zBm,zBn,zBo,zBp,zBq,zBr,zBs,zBt,zBu,zBv,zBw,zBx,zBy,zBz,zB0,zB1,zB2,zB3,zB4,zB5,zB6,zB7,zB8,zB9,zCa,zCb,R.bind,OV.val,rd,stl,esc,escs,rds,isTy,truT_n,truT_b,truT_i,truT_l,truT_t,truT_s,truT_d,zCc,zCd,zCe,zCf,zCg,zCh,zCi,zCj,zCk,zCl,zCm,zCn,zCo,zCp,zCq,zCr,zCs,zCt,zCu,bop,blt,zCv,zCw,zCx,zCy,zCz,zC0,zC1,zC2,zC3,R.of,outsE,retR,putR,zC4,zC5,zC6,zC7,zC8,setVs,bindTg,lend,giveBack,ownL,putL,setAt,slcD,revD,asInt,List.replicate]) ?_
  refine wp_whl (m := ss.length + 1) (fun k ev => ∃ t, (k = (redn ss t).2.length + 1 ∧ t ≤ ss.length) ∧ Fits [some (.sh SS), some (.ow (.l ((redn ss t).2.map PyData.int))), some (.ow (.l ((redn ss t).1.map pkD))), none, some .no] ev) ⟨0, ⟨by simp [redn,intsR], by omega⟩, by simp [zDc,zDd,zDe,zC9,zDa,zDb,redn]⟩ (by omega) ?_ ?_
  · rintro k ev ⟨t, ⟨hk, ht⟩, ⟨_, rfl, _, rfl, _, rfl, y3, _, rfl, i3, _, rfl, rfl⟩⟩
    have hok := redn_ok ss t
    have hlen := hok.len
    have hcnt := (redn_cnt ss t).1
    refine ⟨_, by simp [Def.fn,mkF,runF,startE,zAa,zAb,zAc,zAd,zAe,zAf,zAg,zAh,zAi,zAj,zAk,zAl,zAm,zAn,zAo,zAp,zAq,zAr,zAs,zAt,zAu,zAv,zAw,zAx,zAy,zAz,zA0,zA1,zA2,zA3,zA4,zA5,zA6,zA7,zA8,zA9,zBa,zBb,zBc,zBd,zBe,zBf,zBg,zBh,zBi,zBj,zBk,zBl,zBm,zBn,zBo,zBp,zBq,zBr,zBs,zBt,zBu,zBv,zBw,zBx,zBy,zBz,zB0,zB1,zB2,zB3,zB4,zB5,zB6,zB7,zB8,zB9,zCa,zCb,R.bind,OV.val,rd,stl,esc,escs,rds,isTy,truT_n,truT_b,truT_i,truT_l,truT_t,truT_s,truT_d,zCc,zCd,zCe,zCf,zCg,zCh,zCi,zCj,zCk,zCl,zCm,zCn,zCo,zCp,zCq,zCr,zCs,zCt,zCu,bop,blt,zCv,zCw,zCx,zCy,zCz,zC0,zC1,zC2,zC3,R.of,outsE,retR,putR,zC4,zC5,zC6,zC7,zC8,setVs,bindTg,lend,giveBack,ownL,putL,setAt,slcD,revD,asInt,List.replicate]; first | done | rfl | exact ⟨rfl, rfl⟩ | (constructor <;> rfl), ?_⟩
    have c1 := ev_lcogn (c := c) (own := [4]) (tg := [4]) (tup := false) (i := 1) (e := (.idx (.var 0) (.var 4))) (ev := [.sh SS, .ow (.l ((redn ss t).2.map PyData.int)), .ow (.l ((redn ss t).1.map pkD)), y3, .no]) (w0 := [.sh SS, .no, .ow (.l ((redn ss t).1.map pkD)), y3, .no]) (as := (redn ss t).2) (enc := PyData.int) (g := fun i => stD (gS ss i.toNat)) rfl rfl rfl (fun i hi => by
      have q := al i (hok.rg i hi)
      exact ⟨[.sh SS, .no, .ow (.l ((redn ss t).1.map pkD)), y3, .sh (.int i)], by simp [Def.fn,mkF,runF,startE,zAa,zAb,zAc,zAd,zAe,zAf,zAg,zAh,zAi,zAj,zAk,zAl,zAm,zAn,zAo,zAp,zAq,zAr,zAs,zAt,zAu,zAv,zAw,zAx,zAy,zAz,zA0,zA1,zA2,zA3,zA4,zA5,zA6,zA7,zA8,zA9,zBa,zBb,zBc,zBd,zBe,zBf,zBg,zBh,zBi,zBj,zBk,zBl,zBm,zBn,zBo,zBp,zBq,zBr,zBs,zBt,zBu,zBv,zBw,zBx,zBy,zBz,zB0,zB1,zB2,zB3,zB4,zB5,zB6,zB7,zB8,zB9,zCa,zCb,R.bind,OV.val,rd,stl,esc,escs,rds,isTy,truT_n,truT_b,truT_i,truT_l,truT_t,truT_s,truT_d,zCc,zCd,zCe,zCf,zCg,zCh,zCi,zCj,zCk,zCl,zCm,zCn,zCo,zCp,zCq,zCr,zCs,zCt,zCu,bop,blt,zCv,zCw,zCx,zCy,zCz,zC0,zC1,zC2,zC3,R.of,outsE,retR,putR,zC4,zC5,zC6,zC7,zC8,setVs,bindTg,lend,giveBack,ownL,putL,setAt,slcD,revD,asInt,List.replicate], rfl, rfl, .v (stD (gS ss i.toNat)), by simp [Def.fn,mkF,runF,startE,zAa,zAb,zAc,zAd,zAe,zAf,zAg,zAh,zAi,zAj,zAk,zAl,zAm,zAn,zAo,zAp,zAq,zAr,zAs,zAt,zAu,zAv,zAw,zAx,zAy,zAz,zA0,zA1,zA2,zA3,zA4,zA5,zA6,zA7,zA8,zA9,zBa,zBb,zBc,zBd,zBe,zBf,zBg,zBh,zBi,zBj,zBk,zBl,zBm,zBn,zBo,zBp,zBq,zBr,zBs,zBt,zBu,zBv,zBw,zBx,zBy,zBz,zB0,zB1,zB2,zB3,zB4,zB5,zB6,zB7,zB8,zB9,zCa,zCb,R.bind,OV.val,rd,stl,esc,escs,rds,isTy,truT_n,truT_b,truT_i,truT_l,truT_t,truT_s,truT_d,zCc,zCd,zCe,zCf,zCg,zCh,zCi,zCj,zCk,zCl,zCm,zCn,zCo,zCp,zCq,zCr,zCs,zCt,zCu,bop,blt,zCv,zCw,zCx,zCy,zCz,zC0,zC1,zC2,zC3,R.of,outsE,retR,putR,zC4,zC5,zC6,zC7,zC8,setVs,bindTg,lend,giveBack,ownL,putL,setAt,slcD,revD,asInt,List.replicate,q], by simp [Def.fn,mkF,runF,startE,zAa,zAb,zAc,zAd,zAe,zAf,zAg,zAh,zAi,zAj,zAk,zAl,zAm,zAn,zAo,zAp,zAq,zAr,zAs,zAt,zAu,zAv,zAw,zAx,zAy,zAz,zA0,zA1,zA2,zA3,zA4,zA5,zA6,zA7,zA8,zA9,zBa,zBb,zBc,zBd,zBe,zBf,zBg,zBh,zBi,zBj,zBk,zBl,zBm,zBn,zBo,zBp,zBq,zBr,zBs,zBt,zBu,zBv,zBw,zBx,zBy,zBz,zB0,zB1,zB2,zB3,zB4,zB5,zB6,zB7,zB8,zB9,zCa,zCb,R.bind,OV.val,rd,stl,esc,escs,rds,isTy,truT_n,truT_b,truT_i,truT_l,truT_t,truT_s,truT_d,zCc,zCd,zCe,zCf,zCg,zCh,zCi,zCj,zCk,zCl,zCm,zCn,zCo,zCp,zCq,zCr,zCs,zCt,zCu,bop,blt,zCv,zCw,zCx,zCy,zCz,zC0,zC1,zC2,zC3,R.of,outsE,retR,putR,zC4,zC5,zC6,zC7,zC8,setVs,bindTg,lend,giveBack,ownL,putL,setAt,slcD,revD,asInt,List.replicate]⟩)
    have hh : PyData.list ((redn ss t).2.map fun i => stD (gS ss i.toNat)) = sq false (hereL ss (redn ss t).2) := by simp [sq,hereL,List.map_map,Function.comp_def]
    have q1 := r1 false (hereL ss (redn ss t).2) (by rw [hereL_len]; omega)
    have hstep : redn ss (t + 1) = one ss (redn ss t) := rfl
    have hfix := fun h => redn_fix (ss := ss) (t := t) h
    have hc2 := (redn_cnt ss t).2
    obtain ⟨FL, hFL⟩ : ∃ FL, FL = redn ss t := ⟨_, rfl⟩
    obtain ⟨Fs, L⟩ := FL
    rw [← hFL] at c1 hh q1 hok hlen hcnt hk hstep hfix hc2
    rw [← hFL]
    simp only at c1 hh q1 hok hlen hcnt hk hfix hc2 ⊢
    refine zDf (e1 := [.sh SS, .ow (.l (L.map PyData.int)), .ow (.l (Fs.map pkD)), .sh (oP (firstI (hereL ss L))), .no]) (by simp [Def.fn,mkF,runF,startE,zAa,zAb,zAc,zAd,zAe,zAf,zAg,zAh,zAi,zAj,zAk,zAl,zAm,zAn,zAo,zAp,zAq,zAr,zAs,zAt,zAu,zAv,zAw,zAx,zAy,zAz,zA0,zA1,zA2,zA3,zA4,zA5,zA6,zA7,zA8,zA9,zBa,zBb,zBc,zBd,zBe,zBf,zBg,zBh,zBi,zBj,zBk,zBl,zBm,zBn,zBo,zBp,zBq,zBr,zBs,zBt,zBu,zBv,zBw,zBx,zBy,zBz,zB0,zB1,zB2,zB3,zB4,zB5,zB6,zB7,zB8,zB9,zCa,zCb,R.bind,OV.val,rd,stl,esc,escs,rds,isTy,truT_n,truT_b,truT_i,truT_l,truT_t,truT_s,truT_d,zCc,zCd,zCe,zCf,zCg,zCh,zCi,zCj,zCk,zCl,zCm,zCn,zCo,zCp,zCq,zCr,zCs,zCt,zCu,bop,blt,zCv,zCw,zCx,zCy,zCz,zC0,zC1,zC2,zC3,R.of,outsE,retR,putR,zC4,zC5,zC6,zC7,zC8,setVs,bindTg,lend,giveBack,ownL,putL,setAt,slcD,revD,asInt,List.replicate,c1,hh,g1,o1,q1,i3]) ?_
    cases hq : firstI (hereL ss L) with
    | none =>
      have hred : red ss = (Fs, L) := by
        have := hfix hq (ss.length - t)
        rw [show t + (ss.length - t) = ss.length by omega] at this
        exact this
      refine zDi (e1 := [.sh SS, .ow (.l (L.map PyData.int)), .ow (.l (Fs.map pkD)), .sh .none, .no]) (by simp [Def.fn,mkF,runF,startE,zAa,zAb,zAc,zAd,zAe,zAf,zAg,zAh,zAi,zAj,zAk,zAl,zAm,zAn,zAo,zAp,zAq,zAr,zAs,zAt,zAu,zAv,zAw,zAx,zAy,zAz,zA0,zA1,zA2,zA3,zA4,zA5,zA6,zA7,zA8,zA9,zBa,zBb,zBc,zBd,zBe,zBf,zBg,zBh,zBi,zBj,zBk,zBl,zBm,zBn,zBo,zBp,zBq,zBr,zBs,zBt,zBu,zBv,zBw,zBx,zBy,zBz,zB0,zB1,zB2,zB3,zB4,zB5,zB6,zB7,zB8,zB9,zCa,zCb,R.bind,OV.val,rd,stl,esc,escs,rds,isTy,truT_n,truT_b,truT_i,truT_l,truT_t,truT_s,truT_d,zCc,zCd,zCe,zCf,zCg,zCh,zCi,zCj,zCk,zCl,zCm,zCn,zCo,zCp,zCq,zCr,zCs,zCt,zCu,bop,blt,zCv,zCw,zCx,zCy,zCz,zC0,zC1,zC2,zC3,R.of,outsE,retR,putR,zC4,zC5,zC6,zC7,zC8,setVs,bindTg,lend,giveBack,ownL,putL,setAt,slcD,revD,asInt,List.replicate,oP,isNone]) (zDj (r := .v (.tuple [.tuple (Fs.map pkD), .list (L.map PyData.int)])) (e1 := [.sh SS, .sh (.list (L.map PyData.int)), .ow (.l (Fs.map pkD)), .sh .none, .no]) (by simp [Def.fn,mkF,runF,startE,zAa,zAb,zAc,zAd,zAe,zAf,zAg,zAh,zAi,zAj,zAk,zAl,zAm,zAn,zAo,zAp,zAq,zAr,zAs,zAt,zAu,zAv,zAw,zAx,zAy,zAz,zA0,zA1,zA2,zA3,zA4,zA5,zA6,zA7,zA8,zA9,zBa,zBb,zBc,zBd,zBe,zBf,zBg,zBh,zBi,zBj,zBk,zBl,zBm,zBn,zBo,zBp,zBq,zBr,zBs,zBt,zBu,zBv,zBw,zBx,zBy,zBz,zB0,zB1,zB2,zB3,zB4,zB5,zB6,zB7,zB8,zB9,zCa,zCb,R.bind,OV.val,rd,stl,esc,escs,rds,isTy,truT_n,truT_b,truT_i,truT_l,truT_t,truT_s,truT_d,zCc,zCd,zCe,zCf,zCg,zCh,zCi,zCj,zCk,zCl,zCm,zCn,zCo,zCp,zCq,zCr,zCs,zCt,zCu,bop,blt,zCv,zCw,zCx,zCy,zCz,zC0,zC1,zC2,zC3,R.of,outsE,retR,putR,zC4,zC5,zC6,zC7,zC8,setVs,bindTg,lend,giveBack,ownL,putL,setAt,slcD,revD,asInt,List.replicate,line]) (by simp [Def.fn,mkF,runF,startE,zAa,zAb,zAc,zAd,zAe,zAf,zAg,zAh,zAi,zAj,zAk,zAl,zAm,zAn,zAo,zAp,zAq,zAr,zAs,zAt,zAu,zAv,zAw,zAx,zAy,zAz,zA0,zA1,zA2,zA3,zA4,zA5,zA6,zA7,zA8,zA9,zBa,zBb,zBc,zBd,zBe,zBf,zBg,zBh,zBi,zBj,zBk,zBl,zBm,zBn,zBo,zBp,zBq,zBr,zBs,zBt,zBu,zBv,zBw,zBx,zBy,zBz,zB0,zB1,zB2,zB3,zB4,zB5,zB6,zB7,zB8,zB9,zCa,zCb,R.bind,OV.val,rd,stl,esc,escs,rds,isTy,truT_n,truT_b,truT_i,truT_l,truT_t,truT_s,truT_d,zCc,zCd,zCe,zCf,zCg,zCh,zCi,zCj,zCk,zCl,zCm,zCn,zCo,zCp,zCq,zCr,zCs,zCt,zCu,bop,blt,zCv,zCw,zCx,zCy,zCz,zC0,zC1,zC2,zC3,R.of,outsE,retR,putR,zC4,zC5,zC6,zC7,zC8,setVs,bindTg,lend,giveBack,ownL,putL,setAt,slcD,revD,asInt,List.replicate]; first | done | rfl | exact ⟨rfl, rfl⟩ | (constructor <;> rfl)) ?_)
      exact ⟨[], rfl, by rw [hred], rfl⟩
    | some p =>
      obtain ⟨a, b⟩ := p
      obtain ⟨ha, hb, _⟩ := firstI_some hq
      rw [hereL_len] at ha hb
      have p0 : idxD (.tuple [.int (a : Int), .int (b : Int)]) (.int 0) = some (.int (a : Int)) := rfl
      have p1 : idxD (.tuple [.int (a : Int), .int (b : Int)]) (.int 1) = some (.int (b : Int)) := rfl
      have x0 := at_times (ts := L) (i := (a : Int)) (n := (L.length : Int)) (by omega) (by omega) rfl
      have x1 := at_times (ts := L) (i := (b : Int)) (n := (L.length : Int)) (by omega) (by omega) rfl
      have hone : one ss (Fs, L) = (Fs ++ [(tm L (a : Int), tm L (b : Int))], L.eraseIdx a) := by
        unfold one
        simp only [hq]
      rw [hone] at hstep
      have hfl : Fs.length < 16777216 := by omega
      have hge : (L.map PyData.int)[a]? = some (.int (tm L (a : Int))) := by
        rw [List.getElem?_map, List.getElem?_eq_getElem ha, tm_at ha]
        rfl
      have her : (L.map PyData.int).eraseIdx a = (L.eraseIdx a).map PyData.int := map_erase _ _ _
      have hle : (L.eraseIdx a).length + 1 = L.length := by rw [List.length_eraseIdx_of_lt ha]; omega
      refine zDh (e1 := [.sh SS, .ow (.l (L.map PyData.int)), .ow (.l (Fs.map pkD)), .sh (.tuple [.int (a : Int), .int (b : Int)]), .no]) (by simp [Def.fn,mkF,runF,startE,zAa,zAb,zAc,zAd,zAe,zAf,zAg,zAh,zAi,zAj,zAk,zAl,zAm,zAn,zAo,zAp,zAq,zAr,zAs,zAt,zAu,zAv,zAw,zAx,zAy,zAz,zA0,zA1,zA2,zA3,zA4,zA5,zA6,zA7,zA8,zA9,zBa,zBb,zBc,zBd,zBe,zBf,zBg,zBh,zBi,zBj,zBk,zBl,zBm,zBn,zBo,zBp,zBq,zBr,zBs,zBt,zBu,zBv,zBw,zBx,zBy,zBz,zB0,zB1,zB2,zB3,zB4,zB5,zB6,zB7,zB8,zB9,zCa,zCb,R.bind,OV.val,rd,stl,esc,escs,rds,isTy,truT_n,truT_b,truT_i,truT_l,truT_t,truT_s,truT_d,zCc,zCd,zCe,zCf,zCg,zCh,zCi,zCj,zCk,zCl,zCm,zCn,zCo,zCp,zCq,zCr,zCs,zCt,zCu,bop,blt,zCv,zCw,zCx,zCy,zCz,zC0,zC1,zC2,zC3,R.of,outsE,retR,putR,zC4,zC5,zC6,zC7,zC8,setVs,bindTg,lend,giveBack,ownL,putL,setAt,slcD,revD,asInt,List.replicate,oP,isNone]) (zDg ?_)
      generalize PyData.tuple [.int (a : Int), .int (b : Int)] = PD at p0 p1 ⊢
      have hap : Fs.map pkD ++ [PyData.tuple [.int (tm L (a : Int)), .int (tm L (b : Int))]] = (Fs ++ [(tm L (a : Int), tm L (b : Int))]).map pkD := by rw [List.map_append]; rfl
      refine zDf (e1 := [.sh SS, .ow (.l (L.map PyData.int)), .ow (.l ((Fs ++ [(tm L (a : Int), tm L (b : Int))]).map pkD)), .sh PD, .no]) (by
        rw [← hap]
        simp [Def.fn,mkF,runF,startE,zAa,zAb,zAc,zAd,zAe,zAf,zAg,zAh,zAi,zAj,zAk,zAl,zAm,zAn,zAo,zAp,zAq,zAr,zAs,zAt,zAu,zAv,zAw,zAx,zAy,zAz,zA0,zA1,zA2,zA3,zA4,zA5,zA6,zA7,zA8,zA9,zBa,zBb,zBc,zBd,zBe,zBf,zBg,zBh,zBi,zBj,zBk,zBl,zBm,zBn,zBo,zBp,zBq,zBr,zBs,zBt,zBu,zBv,zBw,zBx,zBy,zBz,zB0,zB1,zB2,zB3,zB4,zB5,zB6,zB7,zB8,zB9,zCa,zCb,R.bind,OV.val,rd,stl,esc,escs,rds,isTy,truT_n,truT_b,truT_i,truT_l,truT_t,truT_s,truT_d,zCc,zCd,zCe,zCf,zCg,zCh,zCi,zCj,zCk,zCl,zCm,zCn,zCo,zCp,zCq,zCr,zCs,zCt,zCu,bop,blt,zCv,zCw,zCx,zCy,zCz,zC0,zC1,zC2,zC3,R.of,outsE,retR,putR,zC4,zC5,zC6,zC7,zC8,setVs,bindTg,lend,giveBack,ownL,putL,setAt,slcD,revD,asInt,List.replicate,p0,p1,x0,x1,line,mth,hfl]) ?_
      have a0 : (0 : Int) ≤ (a : Int) := by omega
      refine zDf (e1 := [.sh SS, .ow (.l ((L.eraseIdx a).map PyData.int)), .ow (.l ((Fs ++ [(tm L (a : Int), tm L (b : Int))]).map pkD)), .sh PD, .no]) (by
        rw [← her]
        generalize L.map PyData.int = LD at hge ⊢
        simp [Def.fn,mkF,runF,startE,zAa,zAb,zAc,zAd,zAe,zAf,zAg,zAh,zAi,zAj,zAk,zAl,zAm,zAn,zAo,zAp,zAq,zAr,zAs,zAt,zAu,zAv,zAw,zAx,zAy,zAz,zA0,zA1,zA2,zA3,zA4,zA5,zA6,zA7,zA8,zA9,zBa,zBb,zBc,zBd,zBe,zBf,zBg,zBh,zBi,zBj,zBk,zBl,zBm,zBn,zBo,zBp,zBq,zBr,zBs,zBt,zBu,zBv,zBw,zBx,zBy,zBz,zB0,zB1,zB2,zB3,zB4,zB5,zB6,zB7,zB8,zB9,zCa,zCb,R.bind,OV.val,rd,stl,esc,escs,rds,isTy,truT_n,truT_b,truT_i,truT_l,truT_t,truT_s,truT_d,zCc,zCd,zCe,zCf,zCg,zCh,zCi,zCj,zCk,zCl,zCm,zCn,zCo,zCp,zCq,zCr,zCs,zCt,zCu,bop,blt,zCv,zCw,zCx,zCy,zCz,zC0,zC1,zC2,zC3,R.of,outsE,retR,putR,zC4,zC5,zC6,zC7,zC8,setVs,bindTg,lend,giveBack,ownL,putL,setAt,slcD,revD,asInt,List.replicate,p0,mth,a0,hge]) (zDg ?_)
      refine ⟨t + 1, ⟨?_, ?_⟩, ?_⟩
      · rw [hstep]; simp only; omega
      · have := hc2 (by rw [hq]; simp)
        omega
      · rw [hstep]
        simp [zDc,zDd,zDe,zC9,zDa,zDb]
  · rintro ev ⟨t, ⟨hk, _⟩, _⟩
    omega
/-! ### what remains -/
def remL (ss : List Stp) : List Stp := hereL ss (red ss).2
def Sp_remof (F : Fn) : Prop := F.io = [false] ∧ ∀ (ss : List Stp), ss.length ≤ 1000 → F.run [stsD ss] = .ok (.v (stsD (remL ss))) []
theorem remof_ok (c : Cf) (h1 : Has c "reduction_of" Sp_redof) : Sp_remof (D_remaining_of.fn c) := by
  obtain ⟨F, g1, o1, r1⟩ := h1
  refine ⟨rfl, fun ss hl => run_eq rfl ?_⟩
  have q1 := r1 ss hl
  have al : ∀ i : Int, 0 ≤ i ∧ i < (ss.length : Int) → idxD (stsD ss) (.int i) = some (stD (gS ss i.toNat)) := fun i h => at_left (k := true) h
  have hok : LOk ss.length (red ss).2 := redn_ok ss ss.length
  have hres : PyData.tuple ((red ss).2.map fun i => stD (gS ss i.toNat)) = stsD (remL ss) := by simp [stsD,remL,hereL,List.map_map,Function.comp_def]
  obtain ⟨SS, hSS⟩ : ∃ SS, SS = stsD ss := ⟨_, rfl⟩
  show wp c D_remaining_of.body [.sh (stsD ss), .no] _
  rw [← hSS] at q1 al ⊢
  simp only [D_remaining_of]
  have p1 : ∀ x y : D, idxD (.tuple [x, y]) (.int 1) = some y := fun _ _ => rfl
  have c1 := ev_lcgn (c := c) (own := [1]) (tg := [1]) (tup := false) (it := (.seq (.idx (.call "reduction_of" (.cons (.var 0) .nil)) (.int 1)))) (e := (.idx (.var 0) (.var 1))) (ev := [.sh SS, .no]) (e1 := [.sh SS, .no]) (w0 := [.sh SS, .no]) (as := (red ss).2) (enc := PyData.int) (g := fun i => stD (gS ss i.toNat)) (by simp [Def.fn,mkF,runF,startE,zAa,zAb,zAc,zAd,zAe,zAf,zAg,zAh,zAi,zAj,zAk,zAl,zAm,zAn,zAo,zAp,zAq,zAr,zAs,zAt,zAu,zAv,zAw,zAx,zAy,zAz,zA0,zA1,zA2,zA3,zA4,zA5,zA6,zA7,zA8,zA9,zBa,zBb,zBc,zBd,zBe,zBf,zBg,zBh,zBi,zBj,zBk,zBl,zBm,zBn,zBo,zBp,zBq,zBr,zBs,zBt,zBu,zBv,zBw,zBx,zBy,zBz,zB0,zB1,zB2,zB3,zB4,zB5,zB6,zB7,zB8,zB9,zCa,zCb,R.bind,OV.val,rd,stl,esc,escs,rds,isTy,truT_n,truT_b,truT_i,truT_l,truT_t,truT_s,truT_d,zCc,zCd,zCe,zCf,zCg,zCh,zCi,zCj,zCk,zCl,zCm,zCn,zCo,zCp,zCq,zCr,zCs,zCt,zCu,bop,blt,zCv,zCw,zCx,zCy,zCz,zC0,zC1,zC2,zC3,R.of,outsE,retR,putR,zC4,zC5,zC6,zC7,zC8,setVs,bindTg,lend,giveBack,ownL,putL,setAt,slcD,revD,asInt,List.replicate,g1,o1,q1,seqOf]) rfl rfl (fun i hi => by
    have q := al i (hok.rg i hi)
    exact ⟨[.sh SS, .sh (.int i)], by simp [Def.fn,mkF,runF,startE,zAa,zAb,zAc,zAd,zAe,zAf,zAg,zAh,zAi,zAj,zAk,zAl,zAm,zAn,zAo,zAp,zAq,zAr,zAs,zAt,zAu,zAv,zAw,zAx,zAy,zAz,zA0,zA1,zA2,zA3,zA4,zA5,zA6,zA7,zA8,zA9,zBa,zBb,zBc,zBd,zBe,zBf,zBg,zBh,zBi,zBj,zBk,zBl,zBm,zBn,zBo,zBp,zBq,zBr,zBs,zBt,zBu,zBv,zBw,zBx,zBy,zBz,zB0,zB1,zB2,zB3,zB4,zB5,zB6,zB7,zB8,zB9,zCa,zCb,R.bind,OV.val,rd,stl,esc,escs,rds,isTy,truT_n,truT_b,truT_i,truT_l,truT_t,truT_s,truT_d,zCc,zCd,zCe,zCf,zCg,zCh,zCi,zCj,zCk,zCl,zCm,zCn,zCo,zCp,zCq,zCr,zCs,zCt,zCu,bop,blt,zCv,zCw,zCx,zCy,zCz,zC0,zC1,zC2,zC3,R.of,outsE,retR,putR,zC4,zC5,zC6,zC7,zC8,setVs,bindTg,lend,giveBack,ownL,putL,setAt,slcD,revD,asInt,List.replicate], rfl, rfl, .v (stD (gS ss i.toNat)), by simp [Def.fn,mkF,runF,startE,zAa,zAb,zAc,zAd,zAe,zAf,zAg,zAh,zAi,zAj,zAk,zAl,zAm,zAn,zAo,zAp,zAq,zAr,zAs,zAt,zAu,zAv,zAw,zAx,zAy,zAz,zA0,zA1,zA2,zA3,zA4,zA5,zA6,zA7,zA8,zA9,zBa,zBb,zBc,zBd,zBe,zBf,zBg,zBh,zBi,zBj,zBk,zBl,zBm,zBn,zBo,zBp,zBq,zBr,zBs,zBt,zBu,zBv,zBw,zBx,zBy,zBz,zB0,zB1,zB2,zB3,zB4,zB5,zB6,zB7,zB8,zB9,zCa,zCb,R.bind,OV.val,rd,stl,esc,escs,rds,isTy,truT_n,truT_b,truT_i,truT_l,truT_t,truT_s,truT_d,zCc,zCd,zCe,zCf,zCg,zCh,zCi,zCj,zCk,zCl,zCm,zCn,zCo,zCp,zCq,zCr,zCs,zCt,zCu,bop,blt,zCv,zCw,zCx,zCy,zCz,zC0,zC1,zC2,zC3,R.of,outsE,retR,putR,zC4,zC5,zC6,zC7,zC8,setVs,bindTg,lend,giveBack,ownL,putL,setAt,slcD,revD,asInt,List.replicate,q], by simp [Def.fn,mkF,runF,startE,zAa,zAb,zAc,zAd,zAe,zAf,zAg,zAh,zAi,zAj,zAk,zAl,zAm,zAn,zAo,zAp,zAq,zAr,zAs,zAt,zAu,zAv,zAw,zAx,zAy,zAz,zA0,zA1,zA2,zA3,zA4,zA5,zA6,zA7,zA8,zA9,zBa,zBb,zBc,zBd,zBe,zBf,zBg,zBh,zBi,zBj,zBk,zBl,zBm,zBn,zBo,zBp,zBq,zBr,zBs,zBt,zBu,zBv,zBw,zBx,zBy,zBz,zB0,zB1,zB2,zB3,zB4,zB5,zB6,zB7,zB8,zB9,zCa,zCb,R.bind,OV.val,rd,stl,esc,escs,rds,isTy,truT_n,truT_b,truT_i,truT_l,truT_t,truT_s,truT_d,zCc,zCd,zCe,zCf,zCg,zCh,zCi,zCj,zCk,zCl,zCm,zCn,zCo,zCp,zCq,zCr,zCs,zCt,zCu,bop,blt,zCv,zCw,zCx,zCy,zCz,zC0,zC1,zC2,zC3,R.of,outsE,retR,putR,zC4,zC5,zC6,zC7,zC8,setVs,bindTg,lend,giveBack,ownL,putL,setAt,slcD,revD,asInt,List.replicate]⟩)
  refine zDj (r := .v (stsD (remL ss))) (e1 := [.sh SS, .no]) (by simp [Def.fn,mkF,runF,startE,zAa,zAb,zAc,zAd,zAe,zAf,zAg,zAh,zAi,zAj,zAk,zAl,zAm,zAn,zAo,zAp,zAq,zAr,zAs,zAt,zAu,zAv,zAw,zAx,zAy,zAz,zA0,zA1,zA2,zA3,zA4,zA5,zA6,zA7,zA8,zA9,zBa,zBb,zBc,zBd,zBe,zBf,zBg,zBh,zBi,zBj,zBk,zBl,zBm,zBn,zBo,zBp,zBq,zBr,zBs,zBt,zBu,zBv,zBw,zBx,zBy,zBz,zB0,zB1,zB2,zB3,zB4,zB5,zB6,zB7,zB8,zB9,zCa,zCb,R.bind,OV.val,rd,stl,esc,escs,rds,isTy,truT_n,truT_b,truT_i,truT_l,truT_t,truT_s,truT_d,zCc,zCd,zCe,zCf,zCg,zCh,zCi,zCj,zCk,zCl,zCm,zCn,zCo,zCp,zCq,zCr,zCs,zCt,zCu,bop,blt,zCv,zCw,zCx,zCy,zCz,zC0,zC1,zC2,zC3,R.of,outsE,retR,putR,zC4,zC5,zC6,zC7,zC8,setVs,bindTg,lend,giveBack,ownL,putL,setAt,slcD,revD,asInt,List.replicate,c1,hres]) (by simp [Def.fn,mkF,runF,startE,zAa,zAb,zAc,zAd,zAe,zAf,zAg,zAh,zAi,zAj,zAk,zAl,zAm,zAn,zAo,zAp,zAq,zAr,zAs,zAt,zAu,zAv,zAw,zAx,zAy,zAz,zA0,zA1,zA2,zA3,zA4,zA5,zA6,zA7,zA8,zA9,zBa,zBb,zBc,zBd,zBe,zBf,zBg,zBh,zBi,zBj,zBk,zBl,zBm,zBn,zBo,zBp,zBq,zBr,zBs,zBt,zBu,zBv,zBw,zBx,zBy,zBz,zB0,zB1,zB2,zB3,zB4,zB5,zB6,zB7,zB8,zB9,zCa,zCb,R.bind,OV.val,rd,stl,esc,escs,rds,isTy,truT_n,truT_b,truT_i,truT_l,truT_t,truT_s,truT_d,zCc,zCd,zCe,zCf,zCg,zCh,zCi,zCj,zCk,zCl,zCm,zCn,zCo,zCp,zCq,zCr,zCs,zCt,zCu,bop,blt,zCv,zCw,zCx,zCy,zCz,zC0,zC1,zC2,zC3,R.of,outsE,retR,putR,zC4,zC5,zC6,zC7,zC8,setVs,bindTg,lend,giveBack,ownL,putL,setAt,slcD,revD,asInt,List.replicate]; first | done | rfl | exact ⟨rfl, rfl⟩ | (constructor <;> rfl)) ?_
  exact ⟨[], rfl, rfl, rfl⟩
def Sp_rem (F : Fn) : Prop := F.io = [false] ∧ ∀ (ss : List Stp), ss.length ≤ 16 → (∀ s ∈ ss, StpOk s) → F.run [stsD ss] = .ok (.v (stsD (remL ss))) []
theorem rem_ok (c : Cf) (h1 : Has c "check_steps" Sp_csteps) (h2 : Has c "remaining_of" Sp_remof) : Sp_rem (D_remaining.fn c) := by
  obtain ⟨F, h1, o1, r1⟩ := h1
  obtain ⟨G, h2, o2, r2⟩ := h2
  exact ⟨rfl, fun ss hl hs => by simp [Def.fn,mkF,runF,startE,zAa,zAb,zAc,zAd,zAe,zAf,zAg,zAh,zAi,zAj,zAk,zAl,zAm,zAn,zAo,zAp,zAq,zAr,zAs,zAt,zAu,zAv,zAw,zAx,zAy,zAz,zA0,zA1,zA2,zA3,zA4,zA5,zA6,zA7,zA8,zA9,zBa,zBb,zBc,zBd,zBe,zBf,zBg,zBh,zBi,zBj,zBk,zBl,zBm,zBn,zBo,zBp,zBq,zBr,zBs,zBt,zBu,zBv,zBw,zBx,zBy,zBz,zB0,zB1,zB2,zB3,zB4,zB5,zB6,zB7,zB8,zB9,zCa,zCb,R.bind,OV.val,rd,stl,esc,escs,rds,isTy,truT_n,truT_b,truT_i,truT_l,truT_t,truT_s,truT_d,zCc,zCd,zCe,zCf,zCg,zCh,zCi,zCj,zCk,zCl,zCm,zCn,zCo,zCp,zCq,zCr,zCs,zCt,zCu,bop,blt,zCv,zCw,zCx,zCy,zCz,zC0,zC1,zC2,zC3,R.of,outsE,retR,putR,setV,setVs,bindTg,lend,giveBack,ownL,putL,setAt,slcD,revD,asInt,List.replicate,D_remaining,h1,o1,r1 ss hl hs,h2,o2,r2 ss (by omega)]⟩
def Sp_redct (F : Fn) : Prop := F.io = [false] ∧ ∀ (ss : List Stp), ss.length ≤ 16 → (∀ s ∈ ss, StpOk s) → F.run [stsD ss] = .ok (.v (.tuple ((red ss).1.map pkD))) []
theorem redct_ok (c : Cf) (h1 : Has c "check_steps" Sp_csteps) (h2 : Has c "reduction_of" Sp_redof) : Sp_redct (D_reduction.fn c) := by
  obtain ⟨F, h1, o1, r1⟩ := h1
  obtain ⟨G, h2, o2, r2⟩ := h2
  exact ⟨rfl, fun ss hl hs => by
    have q1 := r1 ss hl hs
    have q2 := r2 ss (by omega)
    generalize stsD ss = SS at q1 q2 ⊢
    generalize PyData.tuple ((red ss).1.map pkD) = A at q2 ⊢
    generalize PyData.list ((red ss).2.map PyData.int) = B at q2
    simp [Def.fn,mkF,runF,startE,zAa,zAb,zAc,zAd,zAe,zAf,zAg,zAh,zAi,zAj,zAk,zAl,zAm,zAn,zAo,zAp,zAq,zAr,zAs,zAt,zAu,zAv,zAw,zAx,zAy,zAz,zA0,zA1,zA2,zA3,zA4,zA5,zA6,zA7,zA8,zA9,zBa,zBb,zBc,zBd,zBe,zBf,zBg,zBh,zBi,zBj,zBk,zBl,zBm,zBn,zBo,zBp,zBq,zBr,zBs,zBt,zBu,zBv,zBw,zBx,zBy,zBz,zB0,zB1,zB2,zB3,zB4,zB5,zB6,zB7,zB8,zB9,zCa,zCb,R.bind,OV.val,rd,stl,esc,escs,rds,isTy,truT_n,truT_b,truT_i,truT_l,truT_t,truT_s,truT_d,zCc,zCd,zCe,zCf,zCg,zCh,zCi,zCj,zCk,zCl,zCm,zCn,zCo,zCp,zCq,zCr,zCs,zCt,zCu,bop,blt,zCv,zCw,zCx,zCy,zCz,zC0,zC1,zC2,zC3,R.of,outsE,retR,putR,setV,setVs,bindTg,lend,giveBack,ownL,putL,setAt,slcD,revD,asInt,List.replicate,D_reduction,h1,o1,q1,h2,o2,q2]⟩
end Bide

set_option pp.maxSteps 400
set_option autoImplicit false
set_option linter.all false
set_option maxRecDepth 100000
set_option maxHeartbeats 4000000
/-! The layers of steps: the program's, the law's. -/
namespace Bide
open PySem
/-- the levels of the steps before that a step does not commute with -/
def ahd (acc : List (Stp × Int)) (s : Stp) : List Int := (acc.filter fun p => !comm p.1 s).map (·.2)
def lvS (acc : List (Stp × Int)) (s : Stp) : Int := maxI (-1) (ahd acc s) + 1
def lvF (ss : List Stp) : List (Stp × Int) := ss.foldl (fun acc s => acc ++ [(s, lvS acc s)]) []
theorem lvF_snoc (ss : List Stp) (s : Stp) : lvF (ss ++ [s]) = lvF ss ++ [(s, lvS (lvF ss) s)] := by simp [lvF,List.foldl_append]
theorem snoc_ind {α : Type} {P : List α → Prop} (h0 : P []) (h1 : ∀ l a, P l → P (l ++ [a])) : ∀ l, P l := by
  intro l
  rw [← List.reverse_reverse l]
  generalize l.reverse = r
  induction r with
  | nil => exact h0
  | cons a r ih => rw [List.reverse_cons]; exact h1 _ _ ih
theorem lvF_fst (ss : List Stp) : (lvF ss).map (·.1) = ss := by
  induction ss using snoc_ind with
  | h0 => rfl
  | h1 l a ih => rw [lvF_snoc, List.map_append, ih]; rfl
theorem lvF_len (ss : List Stp) : (lvF ss).length = ss.length := by
  have := congrArg List.length (lvF_fst ss)
  simpa using this
def lvs (ss : List Stp) : List Int := (lvF ss).map (·.2)
theorem lvs_len (ss : List Stp) : (lvs ss).length = ss.length := by unfold lvs; rw [List.length_map, lvF_len]
theorem lvs_snoc (ss : List Stp) (s : Stp) : lvs (ss ++ [s]) = lvs ss ++ [lvS (lvF ss) s] := by unfold lvs; rw [lvF_snoc]; simp
theorem zip_self' (l : List (Stp × Int)) : (l.map (·.1)).zip (l.map (·.2)) = l := by
  induction l with
  | nil => rfl
  | cons p r ih => simp only [List.map_cons, List.zip_cons_cons, ih]
theorem lvF_zip (ss : List Stp) : lvF ss = ss.zip (lvs ss) := by
  have h := zip_self' (lvF ss)
  rw [lvF_fst] at h
  exact h.symm
def tops (ss : List Stp) : Int := maxI (-1) (lvs ss) + 1
def layer (ss : List Stp) (l : Int) : List Stp := ((lvF ss).filter fun p => decide (p.2 = l)).map (·.1)
/-- the order in a layer -/
def leSt (a b : Stp) : Bool := PySem.W.dataLe false keyL (stD a) (stD b)
def lay (ss : List Stp) (l : Int) : List Stp := (layer ss l).mergeSort leSt
def layD (ss : List Stp) : D := .tuple ((List.range (tops ss).toNat).map fun (l : Nat) => stsD (lay ss (l : Int)))
theorem maxI_ge (l : List Int) (a : Int) : a ≤ maxI a l := (maxI_spec l a).2.1
theorem maxI_leB (l : List Int) (a B : Int) (h0 : a ≤ B) (h : ∀ x ∈ l, x ≤ B) : maxI a l ≤ B := by
  rcases (maxI_spec l a).1 with e | e
  · rw [e]; exact h0
  · exact h _ e
theorem lvF_le (ss : List Stp) : ∀ p ∈ lvF ss, p.2 < ss.length := by
  induction ss using snoc_ind with
  | h0 => intro p hp; cases hp
  | h1 l a ih =>
    intro p hp
    rw [lvF_snoc] at hp
    rw [List.length_append]
    rcases List.mem_append.mp hp with h | h
    · have := ih p h
      simp only [List.length_cons, List.length_nil]
      omega
    · cases List.mem_singleton.mp h
      have := maxI_leB (ahd (lvF l) a) (-1) ((l.length : Int) - 1) (by omega) (fun x hx => by
        obtain ⟨q, hq, rfl⟩ := List.mem_map.mp hx
        have := ih q (List.mem_filter.mp hq).1
        omega)
      simp only [lvS, List.length_cons, List.length_nil]
      omega
theorem tops_le (ss : List Stp) : tops ss ≤ ss.length := by
  have := maxI_leB (lvs ss) (-1) ((ss.length : Int) - 1) (by omega) (fun x hx => by
    obtain ⟨q, hq, rfl⟩ := List.mem_map.mp hx
    have := lvF_le ss q hq
    omega)
  unfold tops
  omega
theorem tops_nn (ss : List Stp) : 0 ≤ tops ss := by
  have := maxI_ge (lvs ss) (-1)
  unfold tops
  omega
theorem stD_stp (s : Stp) : isStp (stD s) = true := by
  obtain ⟨b, x, y⟩ := s
  cases b <;> rfl
theorem stp_all (l : List Stp) : (l.map stD).all isStp = true := by
  rw [List.all_eq_true]
  intro d hd
  obtain ⟨s, _, rfl⟩ := List.mem_map.mp hd
  exact stD_stp s
theorem srt_map (l : List Stp) : (l.map stD).mergeSort (PySem.W.dataLe false keyL) = (l.mergeSort leSt).map stD := (List.map_mergeSort (f := stD) (r := leSt) (s := PySem.W.dataLe false keyL) fun _ _ _ _ => rfl).symm
/-! ### the program's -/
theorem enumL_cut {α : Type} {ss : List α} {pre suf : List (Nat × α)} {i : Nat} {s : α} (h : enumL ss = pre ++ (i, s) :: suf) : ∃ a b, ss = a ++ s :: b ∧ i = a.length ∧ pre = enumL a := by
  have e2 : (enumL ss).map (·.2) = ss := by unfold enumL; rw [List.map_snd_zip (by simp)]
  have e1 : (enumL ss).map (·.1) = List.range ss.length := by unfold enumL; rw [List.map_fst_zip (by simp)]
  have l := congrArg List.length h
  rw [enumL_len] at l
  simp at l
  rw [h] at e1 e2
  simp only [List.map_append, List.map_cons] at e1 e2
  have f : pre.map (·.1) = List.range pre.length ∧ i = pre.length := by
    have hl : pre.length ≤ ss.length := by omega
    have q := congrArg (List.take pre.length) e1
    have q2 := congrArg (fun z : List Nat => z[pre.length]?) e1
    rw [List.take_append_of_le_length (by simp), List.take_of_length_le (by simp), List.take_range, Nat.min_eq_left hl] at q
    simp only [List.getElem?_append_right (show (pre.map (·.1)).length ≤ pre.length by simp), List.length_map, Nat.sub_self, List.getElem?_cons_zero] at q2
    rw [List.getElem?_range (by omega)] at q2
    exact ⟨q, Option.some.inj q2⟩
  refine ⟨pre.map (·.2), suf.map (·.2), e2.symm, by rw [List.length_map]; exact f.2, ?_⟩
  unfold enumL
  rw [List.length_map, ← f.1]
  clear e1 e2 l h f
  induction pre with
  | nil => rfl
  | cons p r ih => rw [List.map_cons, List.map_cons, List.zip_cons_cons, ← ih]
/-- a level -/
def gI (l : List Int) (k : Nat) : Int := l.getD k 0
theorem lv_at (a : List Stp) (k : Nat) (hk : k < a.length) : ∃ s l, a[k]? = some s ∧ (lvs a)[k]? = some l ∧ (lvF a)[k]? = some (s, l) := by
  have h1 : k < (lvF a).length := by rw [lvF_len]; exact hk
  refine ⟨((lvF a)[k]).1, ((lvF a)[k]).2, ?_, ?_, List.getElem?_eq_getElem h1⟩
  · conv => lhs; rw [← lvF_fst a]
    rw [List.getElem?_map, List.getElem?_eq_getElem h1]; rfl
  · unfold lvs
    rw [List.getElem?_map, List.getElem?_eq_getElem h1]; rfl
theorem range_get {α : Type} (l : List α) (d : α) : l = (List.range l.length).map fun k => l.getD k d := by
  apply List.ext_getElem
  · simp
  · intro i h1 h2
    simp [List.getElem?_eq_getElem h1]
/-- what the comprehension over the earlier places gives -/
theorem ahd_rng (a : List Stp) (s : Stp) : ((List.range a.length).filter fun k => !comm (gS a k) s).map (fun k => gI (lvs a) k) = ahd (lvF a) s := by
  unfold ahd
  have e := range_get (lvF a) ((true, 0, 0), 0)
  rw [lvF_len] at e
  conv => rhs; rw [e]
  rw [List.filter_map, List.map_map]
  have key : ∀ k ∈ List.range a.length, ((lvF a).getD k ((true, 0, 0), 0)).1 = gS a k ∧ ((lvF a).getD k ((true, 0, 0), 0)).2 = gI (lvs a) k := fun k hk => by
    obtain ⟨x, l, h1, h2, h3⟩ := lv_at a k (List.mem_range.mp hk)
    simp [gS,gI,List.getD,h1,h2,h3]
  have hf : (List.range a.length).filter (fun k => !comm (gS a k) s) = (List.range a.length).filter ((fun p : Stp × Int => !comm p.1 s) ∘ fun k => (lvF a).getD k ((true, 0, 0), 0)) := by
    apply List.filter_congr
    intro k hk
    simp only [Function.comp]
    rw [(key k hk).1]
  rw [hf]
  apply List.map_congr_left
  intro k hk
  have hk := (List.mem_filter.mp hk).1
  simp only [Function.comp]
  rw [(key k hk).2]
theorem at_lst (l : List Int) (k : Nat) (h : k < l.length) : idxD (.list (l.map PyData.int)) (.int (k : Int)) = some (.int (gI l k)) := by
  rw [zCx, atD_nat (by omega)]
  simp [gS,gI,List.getElem?_map,List.getElem?_eq_getElem h,List.getD]
theorem at_stp {ss : List Stp} (k : Nat) (h : k < ss.length) : idxD (stsD ss) (.int (k : Int)) = some (stD (gS ss k)) := by
  show atD (ss.map stD) (k : Int) = _
  rw [atD_nat (by omega)]
  simp [gS,gI,List.getElem?_map,List.getElem?_eq_getElem h,List.getD]
def Sp_lay (F : Fn) : Prop := F.io = [false] ∧ ∀ ss : List Stp, ss.length ≤ 16 → F.run [stsD ss] = .ok (.v (layD ss)) []
theorem lay_ok (c : Cf) (h1 : Has c "do_commute" Sp_do) : Sp_lay (D_layers_in.fn c) := by
  obtain ⟨F, h1, o1, r1⟩ := h1
  refine ⟨rfl, fun ss hl => run_eq rfl ?_⟩
  simp only [D_layers_in]
  obtain ⟨SS, hSS⟩ : ∃ SS, SS = stsD ss := ⟨_, rfl⟩
  have sq : seqOf SS = some (ss.map stD) := by rw [hSS]; rfl
  have hss : (ss.length : Int) ≤ 16777216 := by omega
  rw [← hSS]
  have L0 : ([] : List D) = (lvs []).map PyData.int := rfl
  refine zDf (e1 := [.sh SS, .ow (.l []), .no, .no, .no, .no, .no, .no, .no, .no]) (by simp [Def.fn,mkF,runF,startE,zAa,zAb,zAc,zAd,zAe,zAf,zAg,zAh,zAi,zAj,zAk,zAl,zAm,zAn,zAo,zAp,zAq,zAr,zAs,zAt,zAu,zAv,zAw,zAx,zAy,zAz,zA0,zA1,zA2,zA3,zA4,zA5,zA6,zA7,zA8,zA9,zBa,zBb,zBc,zBd,zBe,zBf,zBg,zBh,zBi,zBj,zBk,zBl,zBm,zBn,zBo,zBp,zBq,zBr,zBs,zBt,zBu,zBv,zBw,zBx,zBy,zBz,zB0,zB1,zB2,zB3,zB4,zB5,zB6,zB7,zB8,zB9,zCa,zCb,R.bind,OV.val,rd,stl,esc,escs,rds,isTy,truT_n,truT_b,truT_i,truT_l,truT_t,truT_s,truT_d,zCc,zCd,zCe,zCf,zCg,zCh,zCi,zCj,zCk,zCl,zCm,zCn,zCo,zCp,zCq,zCr,zCs,zCt,zCu,bop,blt,zCv,zCw,zCx,zCy,zCz,zC0,zC1,zC2,zC3,R.of,outsE,retR,putR,zC4,zC5,zC6,zC7,zC8,setVs,bindTg,lend,giveBack,ownL,putL,setAt,slcD,revD,asInt,List.replicate]) ?_
  refine wp_for (e1 := [.sh SS, .ow (.l []), .no, .no, .no, .no, .no, .no, .no, .no]) (as := enumL ss) (enc := fun p => .tuple [.int p.1, stD p.2]) (fun pre ev => ∃ y : SV, y.free ∧ Fits [some (.sh SS), some (.ow (.l ((lvs (pre.map (·.2))).map PyData.int))), some .no, some .no, none, some y, none, some .no, some .no, some .no] ev)
    (by rw [hSS]; simp [Def.fn,mkF,runF,startE,zAa,zAb,zAc,zAd,zAe,zAf,zAg,zAh,zAi,zAj,zAk,zAl,zAm,zAn,zAo,zAp,zAq,zAr,zAs,zAt,zAu,zAv,zAw,zAx,zAy,zAz,zA0,zA1,zA2,zA3,zA4,zA5,zA6,zA7,zA8,zA9,zBa,zBb,zBc,zBd,zBe,zBf,zBg,zBh,zBi,zBj,zBk,zBl,zBm,zBn,zBo,zBp,zBq,zBr,zBs,zBt,zBu,zBv,zBw,zBx,zBy,zBz,zB0,zB1,zB2,zB3,zB4,zB5,zB6,zB7,zB8,zB9,zCa,zCb,R.bind,OV.val,rd,stl,esc,escs,rds,isTy,truT_n,truT_b,truT_i,truT_l,truT_t,truT_s,truT_d,zCc,zCd,zCe,zCf,zCg,zCh,zCi,zCj,zCk,zCl,zCm,zCn,zCo,zCp,zCq,zCr,zCs,zCt,zCu,bop,blt,zCv,zCw,zCx,zCy,zCz,zC0,zC1,zC2,zC3,R.of,outsE,retR,putR,zC4,zC5,zC6,zC7,zC8,setVs,bindTg,lend,giveBack,ownL,putL,setAt,slcD,revD,asInt,List.replicate,stsD,enumD_map]; first | done | rfl | exact ⟨rfl, rfl⟩ | (constructor <;> rfl)) ⟨.no, trivial, by simp [zDc,zDd,zDe,zC9,zDa,zDb,lvs,lvF]⟩ ?_ ?_
  · rintro pre ⟨i, s⟩ suf has ev ⟨y5, hy5, ⟨_, rfl, _, rfl, _, rfl, _, rfl, y4, _, rfl, i4, _, rfl, y6, _, rfl, i6, _, rfl, _, rfl, _, rfl, rfl⟩⟩
    have i5 : y5.ioB = false := by cases y5 <;> first | rfl | exact hy5.elim
    obtain ⟨a, b, hs, rfl, rfl⟩ := enumL_cut has
    have e2 : (enumL a).map (·.2) = a := by unfold enumL; rw [List.map_snd_zip (by simp)]
    have la : a.length < ss.length := by rw [hs]; simp
    rw [List.map_append, e2]
    simp only [List.map_cons, List.map_nil]
    rw [lvs_snoc]
    have lla := lvs_len a
    generalize hLV : lvs a = LA at lla ⊢
    refine ⟨[.sh SS, .ow (.l (LA.map PyData.int)), .no, .no, .sh (.int (a.length : Int)), .sh (stD s), y6, .no, .no, .no], by simp [Def.fn,mkF,runF,startE,zAa,zAb,zAc,zAd,zAe,zAf,zAg,zAh,zAi,zAj,zAk,zAl,zAm,zAn,zAo,zAp,zAq,zAr,zAs,zAt,zAu,zAv,zAw,zAx,zAy,zAz,zA0,zA1,zA2,zA3,zA4,zA5,zA6,zA7,zA8,zA9,zBa,zBb,zBc,zBd,zBe,zBf,zBg,zBh,zBi,zBj,zBk,zBl,zBm,zBn,zBo,zBp,zBq,zBr,zBs,zBt,zBu,zBv,zBw,zBx,zBy,zBz,zB0,zB1,zB2,zB3,zB4,zB5,zB6,zB7,zB8,zB9,zCa,zCb,R.bind,OV.val,rd,stl,esc,escs,rds,isTy,truT_n,truT_b,truT_i,truT_l,truT_t,truT_s,truT_d,zCc,zCd,zCe,zCf,zCg,zCh,zCi,zCj,zCk,zCl,zCm,zCn,zCo,zCp,zCq,zCr,zCs,zCt,zCu,bop,blt,zCv,zCw,zCx,zCy,zCz,zC0,zC1,zC2,zC3,R.of,outsE,retR,putR,zC4,zC5,zC6,zC7,zC8,setVs,bindTg,lend,giveBack,ownL,putL,setAt,slcD,revD,asInt,List.replicate,i4,i5,i6]; first | done | rfl | exact ⟨rfl, rfl⟩ | (constructor <;> rfl), ?_⟩
    have c1 := ev_lcg (c := c) (own := [8]) (tg := [8]) (tup := false) (it := (.rng (.var 4))) (cd := .so (.not (.val (.call "do_commute" (.cons (.idx (.var 0) (.var 8)) (.cons (.var 5) .nil)))))) (e := (.idx (.var 1) (.var 8))) (ev := [.sh SS, .ow (.l (LA.map PyData.int)), .no, .no, .sh (.int (a.length : Int)), .sh (stD s), y6, .no, .no, .no]) (e1 := [.sh SS, .ow (.l (LA.map PyData.int)), .no, .no, .sh (.int (a.length : Int)), .sh (stD s), y6, .no, .no, .no]) (w0 := [.sh SS, .ow (.l (LA.map PyData.int)), .no, .no, .sh (.int (a.length : Int)), .sh (stD s), y6, .no, .no, .no])
      (as := List.range a.length) (enc := fun (k : Nat) => .int (k : Int)) (p := fun k => !comm (gS a k) s) (g := fun k => .int (gI LA k)) (by simp [Def.fn,mkF,runF,startE,zAa,zAb,zAc,zAd,zAe,zAf,zAg,zAh,zAi,zAj,zAk,zAl,zAm,zAn,zAo,zAp,zAq,zAr,zAs,zAt,zAu,zAv,zAw,zAx,zAy,zAz,zA0,zA1,zA2,zA3,zA4,zA5,zA6,zA7,zA8,zA9,zBa,zBb,zBc,zBd,zBe,zBf,zBg,zBh,zBi,zBj,zBk,zBl,zBm,zBn,zBo,zBp,zBq,zBr,zBs,zBt,zBu,zBv,zBw,zBx,zBy,zBz,zB0,zB1,zB2,zB3,zB4,zB5,zB6,zB7,zB8,zB9,zCa,zCb,R.bind,OV.val,rd,stl,esc,escs,rds,isTy,truT_n,truT_b,truT_i,truT_l,truT_t,truT_s,truT_d,zCc,zCd,zCe,zCf,zCg,zCh,zCi,zCj,zCk,zCl,zCm,zCn,zCo,zCp,zCq,zCr,zCs,zCt,zCu,bop,blt,zCv,zCw,zCx,zCy,zCz,zC0,zC1,zC2,zC3,R.of,outsE,retR,putR,zC4,zC5,zC6,zC7,zC8,setVs,bindTg,lend,giveBack,ownL,putL,setAt,slcD,revD,asInt,List.replicate,line,rng0]; try omega) rfl rfl (fun k hk => by
        have hk := List.mem_range.mp hk
        have g1 := at_stp (ss := ss) k (by omega)
        have g2 := at_lst LA k (by omega)
        have g3 : gS ss k = gS a k := by rw [hs]; simp [gS,List.getD,List.getElem?_append_left hk]
        rw [g3, ← hSS] at g1
        have g4 := r1 (gS a k) s
        refine ⟨[.sh SS, .ow (.l (LA.map PyData.int)), .no, .no, .sh (.int (a.length : Int)), .sh (stD s), y6, .no, .sh (.int (k : Int)), .no], by simp [Def.fn,mkF,runF,startE,zAa,zAb,zAc,zAd,zAe,zAf,zAg,zAh,zAi,zAj,zAk,zAl,zAm,zAn,zAo,zAp,zAq,zAr,zAs,zAt,zAu,zAv,zAw,zAx,zAy,zAz,zA0,zA1,zA2,zA3,zA4,zA5,zA6,zA7,zA8,zA9,zBa,zBb,zBc,zBd,zBe,zBf,zBg,zBh,zBi,zBj,zBk,zBl,zBm,zBn,zBo,zBp,zBq,zBr,zBs,zBt,zBu,zBv,zBw,zBx,zBy,zBz,zB0,zB1,zB2,zB3,zB4,zB5,zB6,zB7,zB8,zB9,zCa,zCb,R.bind,OV.val,rd,stl,esc,escs,rds,isTy,truT_n,truT_b,truT_i,truT_l,truT_t,truT_s,truT_d,zCc,zCd,zCe,zCf,zCg,zCh,zCi,zCj,zCk,zCl,zCm,zCn,zCo,zCp,zCq,zCr,zCs,zCt,zCu,bop,blt,zCv,zCw,zCx,zCy,zCz,zC0,zC1,zC2,zC3,R.of,outsE,retR,putR,zC4,zC5,zC6,zC7,zC8,setVs,bindTg,lend,giveBack,ownL,putL,setAt,slcD,revD,asInt,List.replicate], rfl, rfl, by simp [Def.fn,mkF,runF,startE,zAa,zAb,zAc,zAd,zAe,zAf,zAg,zAh,zAi,zAj,zAk,zAl,zAm,zAn,zAo,zAp,zAq,zAr,zAs,zAt,zAu,zAv,zAw,zAx,zAy,zAz,zA0,zA1,zA2,zA3,zA4,zA5,zA6,zA7,zA8,zA9,zBa,zBb,zBc,zBd,zBe,zBf,zBg,zBh,zBi,zBj,zBk,zBl,zBm,zBn,zBo,zBp,zBq,zBr,zBs,zBt,zBu,zBv,zBw,zBx,zBy,zBz,zB0,zB1,zB2,zB3,zB4,zB5,zB6,zB7,zB8,zB9,zCa,zCb,R.bind,OV.val,rd,stl,esc,escs,rds,isTy,truT_n,truT_b,truT_i,truT_l,truT_t,truT_s,truT_d,zCc,zCd,zCe,zCf,zCg,zCh,zCi,zCj,zCk,zCl,zCm,zCn,zCo,zCp,zCq,zCr,zCs,zCt,zCu,bop,blt,zCv,zCw,zCx,zCy,zCz,zC0,zC1,zC2,zC3,R.of,outsE,retR,putR,zC4,zC5,zC6,zC7,zC8,setVs,bindTg,lend,giveBack,ownL,putL,setAt,slcD,revD,asInt,List.replicate,g1,h1,o1,g4], fun _ => ⟨.v (.int (gI LA k)), by simp [Def.fn,mkF,runF,startE,zAa,zAb,zAc,zAd,zAe,zAf,zAg,zAh,zAi,zAj,zAk,zAl,zAm,zAn,zAo,zAp,zAq,zAr,zAs,zAt,zAu,zAv,zAw,zAx,zAy,zAz,zA0,zA1,zA2,zA3,zA4,zA5,zA6,zA7,zA8,zA9,zBa,zBb,zBc,zBd,zBe,zBf,zBg,zBh,zBi,zBj,zBk,zBl,zBm,zBn,zBo,zBp,zBq,zBr,zBs,zBt,zBu,zBv,zBw,zBx,zBy,zBz,zB0,zB1,zB2,zB3,zB4,zB5,zB6,zB7,zB8,zB9,zCa,zCb,R.bind,OV.val,rd,stl,esc,escs,rds,isTy,truT_n,truT_b,truT_i,truT_l,truT_t,truT_s,truT_d,zCc,zCd,zCe,zCf,zCg,zCh,zCi,zCj,zCk,zCl,zCm,zCn,zCo,zCp,zCq,zCr,zCs,zCt,zCu,bop,blt,zCv,zCw,zCx,zCy,zCz,zC0,zC1,zC2,zC3,R.of,outsE,retR,putR,zC4,zC5,zC6,zC7,zC8,setVs,bindTg,lend,giveBack,ownL,putL,setAt,slcD,revD,asInt,List.replicate,g2], by simp [Def.fn,mkF,runF,startE,zAa,zAb,zAc,zAd,zAe,zAf,zAg,zAh,zAi,zAj,zAk,zAl,zAm,zAn,zAo,zAp,zAq,zAr,zAs,zAt,zAu,zAv,zAw,zAx,zAy,zAz,zA0,zA1,zA2,zA3,zA4,zA5,zA6,zA7,zA8,zA9,zBa,zBb,zBc,zBd,zBe,zBf,zBg,zBh,zBi,zBj,zBk,zBl,zBm,zBn,zBo,zBp,zBq,zBr,zBs,zBt,zBu,zBv,zBw,zBx,zBy,zBz,zB0,zB1,zB2,zB3,zB4,zB5,zB6,zB7,zB8,zB9,zCa,zCb,R.bind,OV.val,rd,stl,esc,escs,rds,isTy,truT_n,truT_b,truT_i,truT_l,truT_t,truT_s,truT_d,zCc,zCd,zCe,zCf,zCg,zCh,zCi,zCj,zCk,zCl,zCm,zCn,zCo,zCp,zCq,zCr,zCs,zCt,zCu,bop,blt,zCv,zCw,zCx,zCy,zCz,zC0,zC1,zC2,zC3,R.of,outsE,retR,putR,zC4,zC5,zC6,zC7,zC8,setVs,bindTg,lend,giveBack,ownL,putL,setAt,slcD,revD,asInt,List.replicate]⟩⟩)
    rw [show ((List.range a.length).filter fun k => !comm (gS a k) s).map (fun k => PyData.int (gI LA k)) = (ahd (lvF a) s).map PyData.int from by
      rw [← ahd_rng, hLV, List.map_map]; rfl] at c1
    have hal : (ahd (lvF a) s).length ≤ 16 := by
      have := List.length_filter_le (fun p : Stp × Int => !comm p.1 s) (lvF a)
      unfold ahd
      rw [List.length_map]
      rw [lvF_len] at this
      omega
    have mx : intsL (.int (-1) :: (ahd (lvF a) s).map PyData.int) = some (-1 :: ahd (lvF a) s) := intsL_map (-1 :: ahd (lvF a) s)
    generalize hAH : (ahd (lvF a) s).map PyData.int = AH at c1 mx
    have hAl : AH.length ≤ 16 := by rw [← hAH, List.length_map]; exact hal
    refine zDf (e1 := [.sh SS, .ow (.l (LA.map PyData.int)), .no, .no, .sh (.int (a.length : Int)), .sh (stD s), .ow (.l AH), .no, .no, .no]) (by simp [Def.fn,mkF,runF,startE,zAa,zAb,zAc,zAd,zAe,zAf,zAg,zAh,zAi,zAj,zAk,zAl,zAm,zAn,zAo,zAp,zAq,zAr,zAs,zAt,zAu,zAv,zAw,zAx,zAy,zAz,zA0,zA1,zA2,zA3,zA4,zA5,zA6,zA7,zA8,zA9,zBa,zBb,zBc,zBd,zBe,zBf,zBg,zBh,zBi,zBj,zBk,zBl,zBm,zBn,zBo,zBp,zBq,zBr,zBs,zBt,zBu,zBv,zBw,zBx,zBy,zBz,zB0,zB1,zB2,zB3,zB4,zB5,zB6,zB7,zB8,zB9,zCa,zCb,R.bind,OV.val,rd,stl,esc,escs,rds,isTy,truT_n,truT_b,truT_i,truT_l,truT_t,truT_s,truT_d,zCc,zCd,zCe,zCf,zCg,zCh,zCi,zCj,zCk,zCl,zCm,zCn,zCo,zCp,zCq,zCr,zCs,zCt,zCu,bop,blt,zCv,zCw,zCx,zCy,zCz,zC0,zC1,zC2,zC3,R.of,outsE,retR,putR,zC4,zC5,zC6,zC7,zC8,setVs,bindTg,lend,giveBack,ownL,putL,setAt,slcD,revD,asInt,List.replicate,c1,i6]) ?_
    have hA1 : 1 + AH.length ≤ 16777216 := by omega
    have hLa : LA.length < 16777216 := by omega
    refine zDf (e1 := [.sh SS, .ow (.l (LA.map PyData.int ++ [.int (lvS (lvF a) s)])), .no, .no, .sh (.int (a.length : Int)), .sh (stD s), .ow (.l AH), .no, .no, .no]) (by simp [Def.fn,mkF,runF,startE,zAa,zAb,zAc,zAd,zAe,zAf,zAg,zAh,zAi,zAj,zAk,zAl,zAm,zAn,zAo,zAp,zAq,zAr,zAs,zAt,zAu,zAv,zAw,zAx,zAy,zAz,zA0,zA1,zA2,zA3,zA4,zA5,zA6,zA7,zA8,zA9,zBa,zBb,zBc,zBd,zBe,zBf,zBg,zBh,zBi,zBj,zBk,zBl,zBm,zBn,zBo,zBp,zBq,zBr,zBs,zBt,zBu,zBv,zBw,zBx,zBy,zBz,zB0,zB1,zB2,zB3,zB4,zB5,zB6,zB7,zB8,zB9,zCa,zCb,R.bind,OV.val,rd,stl,esc,escs,rds,isTy,truT_n,truT_b,truT_i,truT_l,truT_t,truT_s,truT_d,zCc,zCd,zCe,zCf,zCg,zCh,zCi,zCj,zCk,zCl,zCm,zCn,zCo,zCp,zCq,zCr,zCs,zCt,zCu,bop,blt,zCv,zCw,zCx,zCy,zCz,zC0,zC1,zC2,zC3,R.of,outsE,retR,putR,zC4,zC5,zC6,zC7,zC8,setVs,bindTg,lend,giveBack,ownL,putL,setAt,slcD,revD,asInt,List.replicate,mx,line,mth,lvS,hA1,hLa]) (zDg ⟨.sh (stD s), trivial, by simp [zDc,zDd,zDe,zC9,zDa,zDb]⟩)
  · rintro ev ⟨y5, hy5, ⟨_, rfl, _, rfl, _, rfl, _, rfl, y4, _, rfl, i4, _, rfl, y6, _, rfl, i6, _, rfl, _, rfl, _, rfl, rfl⟩⟩
    have i5 : y5.ioB = false := by cases y5 <;> first | rfl | exact hy5.elim
    have eN : (enumL ss).map (·.2) = ss := by unfold enumL; rw [List.map_snd_zip (by simp)]
    rw [eN]
    have hb := tops_le ss
    have tn := tops_nn ss
    have mx : intsL (.int (-1) :: (lvs ss).map PyData.int) = some (-1 :: lvs ss) := intsL_map (-1 :: lvs ss)
    have hz : zipD (ss.map stD) ((lvs ss).map PyData.int) = (lvF ss).map fun p => .tuple [stD p.1, .int p.2] := by
      rw [lvF_zip]; unfold zipD; rw [List.zip_map, List.map_map]; rfl
    have hll := lvs_len ss
    generalize hLV : (lvs ss).map PyData.int = LV at mx hz ⊢
    have hA1 : 1 + LV.length ≤ 16777216 := by rw [← hLV, List.length_map]; omega
    have ht : maxI (-1) (lvs ss) + 1 = tops ss := rfl
    have ht2 : (tops ss) ≤ 16777216 := by omega
    refine zDf (e1 := [.sh SS, .ow (.l LV), .ow (.l []), .no, y4, y5, y6, .no, .no, .no]) (by simp [Def.fn,mkF,runF,startE,zAa,zAb,zAc,zAd,zAe,zAf,zAg,zAh,zAi,zAj,zAk,zAl,zAm,zAn,zAo,zAp,zAq,zAr,zAs,zAt,zAu,zAv,zAw,zAx,zAy,zAz,zA0,zA1,zA2,zA3,zA4,zA5,zA6,zA7,zA8,zA9,zBa,zBb,zBc,zBd,zBe,zBf,zBg,zBh,zBi,zBj,zBk,zBl,zBm,zBn,zBo,zBp,zBq,zBr,zBs,zBt,zBu,zBv,zBw,zBx,zBy,zBz,zB0,zB1,zB2,zB3,zB4,zB5,zB6,zB7,zB8,zB9,zCa,zCb,R.bind,OV.val,rd,stl,esc,escs,rds,isTy,truT_n,truT_b,truT_i,truT_l,truT_t,truT_s,truT_d,zCc,zCd,zCe,zCf,zCg,zCh,zCi,zCj,zCk,zCl,zCm,zCn,zCo,zCp,zCq,zCr,zCs,zCt,zCu,bop,blt,zCv,zCw,zCx,zCy,zCz,zC0,zC1,zC2,zC3,R.of,outsE,retR,putR,zC4,zC5,zC6,zC7,zC8,setVs,bindTg,lend,giveBack,ownL,putL,setAt,slcD,revD,asInt,List.replicate]) ?_
    refine wp_for (e1 := [.sh SS, .ow (.l LV), .ow (.l []), .no, y4, y5, y6, .no, .no, .no]) (as := List.range (tops ss).toNat) (enc := fun (l : Nat) => .int (l : Int))
      (fun pre ev => ∃ (kb : Bool) (y : SV), y.free ∧ Fits [some (.sh SS), some (svM kb LV), some (.ow (.l (pre.map fun (l : Nat) => stsD (lay ss (l : Int))))), none, none, some y, none, none, some .no, some .no] ev)
      (by simp [Def.fn,mkF,runF,startE,zAa,zAb,zAc,zAd,zAe,zAf,zAg,zAh,zAi,zAj,zAk,zAl,zAm,zAn,zAo,zAp,zAq,zAr,zAs,zAt,zAu,zAv,zAw,zAx,zAy,zAz,zA0,zA1,zA2,zA3,zA4,zA5,zA6,zA7,zA8,zA9,zBa,zBb,zBc,zBd,zBe,zBf,zBg,zBh,zBi,zBj,zBk,zBl,zBm,zBn,zBo,zBp,zBq,zBr,zBs,zBt,zBu,zBv,zBw,zBx,zBy,zBz,zB0,zB1,zB2,zB3,zB4,zB5,zB6,zB7,zB8,zB9,zCa,zCb,R.bind,OV.val,rd,stl,esc,escs,rds,isTy,truT_n,truT_b,truT_i,truT_l,truT_t,truT_s,truT_d,zCc,zCd,zCe,zCf,zCg,zCh,zCi,zCj,zCk,zCl,zCm,zCn,zCo,zCp,zCq,zCr,zCs,zCt,zCu,bop,blt,zCv,zCw,zCx,zCy,zCz,zC0,zC1,zC2,zC3,R.of,outsE,retR,putR,zC4,zC5,zC6,zC7,zC8,setVs,bindTg,lend,giveBack,ownL,putL,setAt,slcD,revD,asInt,List.replicate,mx,hA1,line,rng0,ht,ht2,tn]; try omega) ⟨true, y5, hy5, by simp [zDc,zDd,zDe,zC9,zDa,zDb,svM,i4,i6]⟩ ?_ ?_
    · clear i4 i5 i6
      rintro pre l suf has ev ⟨kb, y5, hy5, ⟨_, rfl, _, rfl, _, rfl, y3, _, rfl, i3, y4, _, rfl, i4, _, rfl, y6, _, rfl, i6, y7, _, rfl, i7, _, rfl, _, rfl, rfl⟩⟩
      have i5 : y5.ioB = false := by cases y5 <;> first | rfl | exact hy5.elim
      have hll' := (preL has).1
      rw [List.length_range] at hll'
      have lpre : (pre.map fun (l : Nat) => stsD (lay ss (l : Int))).length < 16777216 := by rw [List.length_map]; omega
      rw [List.map_append]
      simp only [List.map_cons, List.map_nil]
      generalize (pre.map fun (l : Nat) => stsD (lay ss (l : Int))) = FD at lpre ⊢
      refine ⟨[.sh SS, svM kb LV, .ow (.l FD), .sh (.int (l : Int)), y4, y5, y6, y7, .no, .no], by simp [Def.fn,mkF,runF,startE,zAa,zAb,zAc,zAd,zAe,zAf,zAg,zAh,zAi,zAj,zAk,zAl,zAm,zAn,zAo,zAp,zAq,zAr,zAs,zAt,zAu,zAv,zAw,zAx,zAy,zAz,zA0,zA1,zA2,zA3,zA4,zA5,zA6,zA7,zA8,zA9,zBa,zBb,zBc,zBd,zBe,zBf,zBg,zBh,zBi,zBj,zBk,zBl,zBm,zBn,zBo,zBp,zBq,zBr,zBs,zBt,zBu,zBv,zBw,zBx,zBy,zBz,zB0,zB1,zB2,zB3,zB4,zB5,zB6,zB7,zB8,zB9,zCa,zCb,R.bind,OV.val,rd,stl,esc,escs,rds,isTy,truT_n,truT_b,truT_i,truT_l,truT_t,truT_s,truT_d,zCc,zCd,zCe,zCf,zCg,zCh,zCi,zCj,zCk,zCl,zCm,zCn,zCo,zCp,zCq,zCr,zCs,zCt,zCu,bop,blt,zCv,zCw,zCx,zCy,zCz,zC0,zC1,zC2,zC3,R.of,outsE,retR,putR,zC4,zC5,zC6,zC7,zC8,setVs,bindTg,lend,giveBack,ownL,putL,setAt,slcD,revD,asInt,List.replicate,i3,i4,i5,i6,i7], ?_⟩
      have c1 := ev_lcg (c := c) (own := [5, 9]) (tg := [5, 9]) (tup := true) (it := (.zip (.var 0) (.var 1))) (cd := .so (.val (.cmp .eq (.var 9) (.var 3)))) (e := (.var 5)) (ev := [.sh SS, svM kb LV, .ow (.l FD), .sh (.int (l : Int)), y4, y5, y6, y7, .no, .no]) (e1 := [.sh SS, .sh (.list LV), .ow (.l FD), .sh (.int (l : Int)), y4, y5, y6, y7, .no, .no]) (w0 := [.sh SS, .sh (.list LV), .ow (.l FD), .sh (.int (l : Int)), y4, .no, y6, y7, .no, .no])
        (as := lvF ss) (enc := fun p => .tuple [stD p.1, .int p.2]) (p := fun p => decide (p.2 = (l : Int))) (g := fun p => stD p.1) (by cases kb <;> simp [Def.fn,mkF,runF,startE,zAa,zAb,zAc,zAd,zAe,zAf,zAg,zAh,zAi,zAj,zAk,zAl,zAm,zAn,zAo,zAp,zAq,zAr,zAs,zAt,zAu,zAv,zAw,zAx,zAy,zAz,zA0,zA1,zA2,zA3,zA4,zA5,zA6,zA7,zA8,zA9,zBa,zBb,zBc,zBd,zBe,zBf,zBg,zBh,zBi,zBj,zBk,zBl,zBm,zBn,zBo,zBp,zBq,zBr,zBs,zBt,zBu,zBv,zBw,zBx,zBy,zBz,zB0,zB1,zB2,zB3,zB4,zB5,zB6,zB7,zB8,zB9,zCa,zCb,R.bind,OV.val,rd,stl,esc,escs,rds,isTy,truT_n,truT_b,truT_i,truT_l,truT_t,truT_s,truT_d,zCc,zCd,zCe,zCf,zCg,zCh,zCi,zCj,zCk,zCl,zCm,zCn,zCo,zCp,zCq,zCr,zCs,zCt,zCu,bop,blt,zCv,zCw,zCx,zCy,zCz,zC0,zC1,zC2,zC3,R.of,outsE,retR,putR,zC4,zC5,zC6,zC7,zC8,setVs,bindTg,lend,giveBack,ownL,putL,setAt,slcD,revD,asInt,List.replicate,hSS,stsD,svM,hz]) (by cases y5 <;> first | rfl | exact hy5.elim) (by cases y5 <;> first | rfl | exact hy5.elim) (fun p hp =>
          ⟨[.sh SS, .sh (.list LV), .ow (.l FD), .sh (.int (l : Int)), y4, .sh (stD p.1), y6, y7, .no, .sh (.int p.2)], by simp [Def.fn,mkF,runF,startE,zAa,zAb,zAc,zAd,zAe,zAf,zAg,zAh,zAi,zAj,zAk,zAl,zAm,zAn,zAo,zAp,zAq,zAr,zAs,zAt,zAu,zAv,zAw,zAx,zAy,zAz,zA0,zA1,zA2,zA3,zA4,zA5,zA6,zA7,zA8,zA9,zBa,zBb,zBc,zBd,zBe,zBf,zBg,zBh,zBi,zBj,zBk,zBl,zBm,zBn,zBo,zBp,zBq,zBr,zBs,zBt,zBu,zBv,zBw,zBx,zBy,zBz,zB0,zB1,zB2,zB3,zB4,zB5,zB6,zB7,zB8,zB9,zCa,zCb,R.bind,OV.val,rd,stl,esc,escs,rds,isTy,truT_n,truT_b,truT_i,truT_l,truT_t,truT_s,truT_d,zCc,zCd,zCe,zCf,zCg,zCh,zCi,zCj,zCk,zCl,zCm,zCn,zCo,zCp,zCq,zCr,zCs,zCt,zCu,bop,blt,zCv,zCw,zCx,zCy,zCz,zC0,zC1,zC2,zC3,R.of,outsE,retR,putR,zC4,zC5,zC6,zC7,zC8,setVs,bindTg,lend,giveBack,ownL,putL,setAt,slcD,revD,asInt,List.replicate], rfl, by cases y5 <;> first | rfl | exact hy5.elim, by simp [Def.fn,mkF,runF,startE,zAa,zAb,zAc,zAd,zAe,zAf,zAg,zAh,zAi,zAj,zAk,zAl,zAm,zAn,zAo,zAp,zAq,zAr,zAs,zAt,zAu,zAv,zAw,zAx,zAy,zAz,zA0,zA1,zA2,zA3,zA4,zA5,zA6,zA7,zA8,zA9,zBa,zBb,zBc,zBd,zBe,zBf,zBg,zBh,zBi,zBj,zBk,zBl,zBm,zBn,zBo,zBp,zBq,zBr,zBs,zBt,zBu,zBv,zBw,zBx,zBy,zBz,zB0,zB1,zB2,zB3,zB4,zB5,zB6,zB7,zB8,zB9,zCa,zCb,R.bind,OV.val,rd,stl,esc,escs,rds,isTy,truT_n,truT_b,truT_i,truT_l,truT_t,truT_s,truT_d,zCc,zCd,zCe,zCf,zCg,zCh,zCi,zCj,zCk,zCl,zCm,zCn,zCo,zCp,zCq,zCr,zCs,zCt,zCu,bop,blt,zCv,zCw,zCx,zCy,zCz,zC0,zC1,zC2,zC3,R.of,outsE,retR,putR,zC4,zC5,zC6,zC7,zC8,setVs,bindTg,lend,giveBack,ownL,putL,setAt,slcD,revD,asInt,List.replicate], fun _ => ⟨.v (stD p.1), by simp [Def.fn,mkF,runF,startE,zAa,zAb,zAc,zAd,zAe,zAf,zAg,zAh,zAi,zAj,zAk,zAl,zAm,zAn,zAo,zAp,zAq,zAr,zAs,zAt,zAu,zAv,zAw,zAx,zAy,zAz,zA0,zA1,zA2,zA3,zA4,zA5,zA6,zA7,zA8,zA9,zBa,zBb,zBc,zBd,zBe,zBf,zBg,zBh,zBi,zBj,zBk,zBl,zBm,zBn,zBo,zBp,zBq,zBr,zBs,zBt,zBu,zBv,zBw,zBx,zBy,zBz,zB0,zB1,zB2,zB3,zB4,zB5,zB6,zB7,zB8,zB9,zCa,zCb,R.bind,OV.val,rd,stl,esc,escs,rds,isTy,truT_n,truT_b,truT_i,truT_l,truT_t,truT_s,truT_d,zCc,zCd,zCe,zCf,zCg,zCh,zCi,zCj,zCk,zCl,zCm,zCn,zCo,zCp,zCq,zCr,zCs,zCt,zCu,bop,blt,zCv,zCw,zCx,zCy,zCz,zC0,zC1,zC2,zC3,R.of,outsE,retR,putR,zC4,zC5,zC6,zC7,zC8,setVs,bindTg,lend,giveBack,ownL,putL,setAt,slcD,revD,asInt,List.replicate], by simp [Def.fn,mkF,runF,startE,zAa,zAb,zAc,zAd,zAe,zAf,zAg,zAh,zAi,zAj,zAk,zAl,zAm,zAn,zAo,zAp,zAq,zAr,zAs,zAt,zAu,zAv,zAw,zAx,zAy,zAz,zA0,zA1,zA2,zA3,zA4,zA5,zA6,zA7,zA8,zA9,zBa,zBb,zBc,zBd,zBe,zBf,zBg,zBh,zBi,zBj,zBk,zBl,zBm,zBn,zBo,zBp,zBq,zBr,zBs,zBt,zBu,zBv,zBw,zBx,zBy,zBz,zB0,zB1,zB2,zB3,zB4,zB5,zB6,zB7,zB8,zB9,zCa,zCb,R.bind,OV.val,rd,stl,esc,escs,rds,isTy,truT_n,truT_b,truT_i,truT_l,truT_t,truT_s,truT_d,zCc,zCd,zCe,zCf,zCg,zCh,zCi,zCj,zCk,zCl,zCm,zCn,zCo,zCp,zCq,zCr,zCs,zCt,zCu,bop,blt,zCv,zCw,zCx,zCy,zCz,zC0,zC1,zC2,zC3,R.of,outsE,retR,putR,zC4,zC5,zC6,zC7,zC8,setVs,bindTg,lend,giveBack,ownL,putL,setAt,slcD,revD,asInt,List.replicate]⟩⟩)
      rw [show ((lvF ss).filter fun p => decide (p.2 = (l : Int))).map (fun p => stD p.1) = (layer ss (l : Int)).map stD from by unfold layer; rw [List.map_map]; rfl] at c1
      have st := stp_all (layer ss (l : Int))
      have sm := srt_map (layer ss (l : Int))
      have lay_l : (layer ss (l : Int)).length ≤ 16 := by
        have := List.length_filter_le (fun p : Stp × Int => decide (p.2 = (l : Int))) (lvF ss)
        unfold layer
        rw [List.length_map]
        rw [lvF_len] at this
        omega
      have ll2 : ((lay ss (l : Int)).map stD).length ≤ 16777216 := by rw [List.length_map]; unfold lay; rw [List.length_mergeSort]; omega
      have e3 : stsD (lay ss (l : Int)) = .tuple ((lay ss (l : Int)).map stD) := rfl
      rw [e3]
      rw [show ((layer ss (l : Int)).mergeSort leSt) = lay ss (l : Int) from rfl] at sm
      generalize (layer ss (l : Int)).map stD = LD at c1 st sm
      generalize (lay ss (l : Int)).map stD = RD at sm ll2 ⊢
      refine zDf (e1 := [.sh SS, .sh (.list LV), .ow (.l FD), .sh (.int (l : Int)), y4, y5, y6, .ow (.l LD), .no, .no]) (by simp [Def.fn,mkF,runF,startE,zAa,zAb,zAc,zAd,zAe,zAf,zAg,zAh,zAi,zAj,zAk,zAl,zAm,zAn,zAo,zAp,zAq,zAr,zAs,zAt,zAu,zAv,zAw,zAx,zAy,zAz,zA0,zA1,zA2,zA3,zA4,zA5,zA6,zA7,zA8,zA9,zBa,zBb,zBc,zBd,zBe,zBf,zBg,zBh,zBi,zBj,zBk,zBl,zBm,zBn,zBo,zBp,zBq,zBr,zBs,zBt,zBu,zBv,zBw,zBx,zBy,zBz,zB0,zB1,zB2,zB3,zB4,zB5,zB6,zB7,zB8,zB9,zCa,zCb,R.bind,OV.val,rd,stl,esc,escs,rds,isTy,truT_n,truT_b,truT_i,truT_l,truT_t,truT_s,truT_d,zCc,zCd,zCe,zCf,zCg,zCh,zCi,zCj,zCk,zCl,zCm,zCn,zCo,zCp,zCq,zCr,zCs,zCt,zCu,bop,blt,zCv,zCw,zCx,zCy,zCz,zC0,zC1,zC2,zC3,R.of,outsE,retR,putR,zC4,zC5,zC6,zC7,zC8,setVs,bindTg,lend,giveBack,ownL,putL,setAt,slcD,revD,asInt,List.replicate,c1,i7]) ?_
      refine zDf (e1 := [.sh SS, .sh (.list LV), .ow (.l (FD ++ [.tuple RD])), .sh (.int (l : Int)), y4, y5, y6, .ow (.l LD), .no, .no]) (by simp [Def.fn,mkF,runF,startE,zAa,zAb,zAc,zAd,zAe,zAf,zAg,zAh,zAi,zAj,zAk,zAl,zAm,zAn,zAo,zAp,zAq,zAr,zAs,zAt,zAu,zAv,zAw,zAx,zAy,zAz,zA0,zA1,zA2,zA3,zA4,zA5,zA6,zA7,zA8,zA9,zBa,zBb,zBc,zBd,zBe,zBf,zBg,zBh,zBi,zBj,zBk,zBl,zBm,zBn,zBo,zBp,zBq,zBr,zBs,zBt,zBu,zBv,zBw,zBx,zBy,zBz,zB0,zB1,zB2,zB3,zB4,zB5,zB6,zB7,zB8,zB9,zCa,zCb,R.bind,OV.val,rd,stl,esc,escs,rds,isTy,truT_n,truT_b,truT_i,truT_l,truT_t,truT_s,truT_d,zCc,zCd,zCe,zCf,zCg,zCh,zCi,zCj,zCk,zCl,zCm,zCn,zCo,zCp,zCq,zCr,zCs,zCt,zCu,bop,blt,zCv,zCw,zCx,zCy,zCz,zC0,zC1,zC2,zC3,R.of,outsE,retR,putR,zC4,zC5,zC6,zC7,zC8,setVs,bindTg,lend,giveBack,ownL,putL,setAt,slcD,revD,asInt,List.replicate,zBb,st,sm,line,mth,lpre,ll2]) (zDg ⟨false, y5, hy5, by simp [zDc,zDd,zDe,zC9,zDa,zDb,svM,i4,i6]⟩)
    · clear i4 i5 i6
      rintro ev ⟨kb, y5, hy5, ⟨_, rfl, _, rfl, _, rfl, y3, _, rfl, i3, y4, _, rfl, i4, _, rfl, y6, _, rfl, i6, y7, _, rfl, i7, _, rfl, _, rfl, rfl⟩⟩
      have hl2 : ((List.range (tops ss).toNat).map fun (l : Nat) => stsD (lay ss (l : Int))).length ≤ 16777216 := by rw [List.length_map, List.length_range]; omega
      have e3 : layD ss = .tuple ((List.range (tops ss).toNat).map fun (l : Nat) => stsD (lay ss (l : Int))) := rfl
      rw [e3]
      generalize ((List.range (tops ss).toNat).map fun (l : Nat) => stsD (lay ss (l : Int))) = FD at hl2 ⊢
      refine zDj (r := .v (.tuple FD)) (by simp [Def.fn,mkF,runF,startE,zAa,zAb,zAc,zAd,zAe,zAf,zAg,zAh,zAi,zAj,zAk,zAl,zAm,zAn,zAo,zAp,zAq,zAr,zAs,zAt,zAu,zAv,zAw,zAx,zAy,zAz,zA0,zA1,zA2,zA3,zA4,zA5,zA6,zA7,zA8,zA9,zBa,zBb,zBc,zBd,zBe,zBf,zBg,zBh,zBi,zBj,zBk,zBl,zBm,zBn,zBo,zBp,zBq,zBr,zBs,zBt,zBu,zBv,zBw,zBx,zBy,zBz,zB0,zB1,zB2,zB3,zB4,zB5,zB6,zB7,zB8,zB9,zCa,zCb,R.bind,OV.val,rd,stl,esc,escs,rds,isTy,truT_n,truT_b,truT_i,truT_l,truT_t,truT_s,truT_d,zCc,zCd,zCe,zCf,zCg,zCh,zCi,zCj,zCk,zCl,zCm,zCn,zCo,zCp,zCq,zCr,zCs,zCt,zCu,bop,blt,zCv,zCw,zCx,zCy,zCz,zC0,zC1,zC2,zC3,R.of,outsE,retR,putR,zC4,zC5,zC6,zC7,zC8,setVs,bindTg,lend,giveBack,ownL,putL,setAt,slcD,revD,asInt,List.replicate,line,hl2]; first | done | rfl | exact ⟨rfl, rfl⟩ | (constructor <;> rfl)) (by simp [Def.fn,mkF,runF,startE,zAa,zAb,zAc,zAd,zAe,zAf,zAg,zAh,zAi,zAj,zAk,zAl,zAm,zAn,zAo,zAp,zAq,zAr,zAs,zAt,zAu,zAv,zAw,zAx,zAy,zAz,zA0,zA1,zA2,zA3,zA4,zA5,zA6,zA7,zA8,zA9,zBa,zBb,zBc,zBd,zBe,zBf,zBg,zBh,zBi,zBj,zBk,zBl,zBm,zBn,zBo,zBp,zBq,zBr,zBs,zBt,zBu,zBv,zBw,zBx,zBy,zBz,zB0,zB1,zB2,zB3,zB4,zB5,zB6,zB7,zB8,zB9,zCa,zCb,R.bind,OV.val,rd,stl,esc,escs,rds,isTy,truT_n,truT_b,truT_i,truT_l,truT_t,truT_s,truT_d,zCc,zCd,zCe,zCf,zCg,zCh,zCi,zCj,zCk,zCl,zCm,zCn,zCo,zCp,zCq,zCr,zCs,zCt,zCu,bop,blt,zCv,zCw,zCx,zCy,zCz,zC0,zC1,zC2,zC3,R.of,outsE,retR,putR,zC4,zC5,zC6,zC7,zC8,setVs,bindTg,lend,giveBack,ownL,putL,setAt,slcD,revD,asInt,List.replicate]; first | done | rfl | exact ⟨rfl, rfl⟩ | (constructor <;> rfl)) ?_
      exact ⟨[], rfl, rfl, rfl⟩
/-! ### the law's order -/
theorem lt3 {x y z x' y' z' : D} (h1 : PySem.W.alike x x' = true) (h2 : PySem.W.alike y y' = true) (h3 : PySem.W.alike z z' = true) :
    PySem.W.dataLt (.tuple [x, y, z]) (.tuple [x', y', z']) = if PyData.eqv x x' = true then (if PyData.eqv y y' = true then (if PyData.eqv z z' = true then false else PySem.W.dataLt z z') else PySem.W.dataLt y y') else PySem.W.dataLt x x' := by
  rw [PySem.W.dataLt_tuple, PySem.W.dataLt_cons h1, PySem.W.dataLt_cons h2, PySem.W.dataLt_cons h3]
  have e : PyProof.Rows.lexLt PyProof.Rows.itemOrd (PySem.W.keyToksAll []) (PySem.W.keyToksAll []) = false := PyProof.Rows.lex_irrefl _
  rw [e]
/-! ### the law's -/
def Sp_lays (F : Fn) : Prop := F.io = [false] ∧ ∀ ss : List Stp, ss.length ≤ 16 → (∀ s ∈ ss, StpOk s) → F.run [stsD ss] = .ok (.v (layD ss)) []
theorem layers_ok (c : Cf) (h1 : Has c "check_steps" Sp_csteps) (h2 : Has c "layers_in" Sp_lay) : Sp_lays (D_layers.fn c) := by
  obtain ⟨F, h1, o1, r1⟩ := h1
  obtain ⟨G, h2, o2, r2⟩ := h2
  refine ⟨rfl, fun ss hl hs => ?_⟩
  have q1 := r1 ss hl hs
  have q2 := r2 ss hl
  obtain ⟨N, hN⟩ : ∃ N, N = stsD ss := ⟨_, rfl⟩
  obtain ⟨M, hM⟩ : ∃ M, M = layD ss := ⟨_, rfl⟩
  rw [← hN] at q1 q2 ⊢
  rw [← hM] at q2 ⊢
  simp [Def.fn,mkF,runF,startE,zAa,zAb,zAc,zAd,zAe,zAf,zAg,zAh,zAi,zAj,zAk,zAl,zAm,zAn,zAo,zAp,zAq,zAr,zAs,zAt,zAu,zAv,zAw,zAx,zAy,zAz,zA0,zA1,zA2,zA3,zA4,zA5,zA6,zA7,zA8,zA9,zBa,zBb,zBc,zBd,zBe,zBf,zBg,zBh,zBi,zBj,zBk,zBl,zBm,zBn,zBo,zBp,zBq,zBr,zBs,zBt,zBu,zBv,zBw,zBx,zBy,zBz,zB0,zB1,zB2,zB3,zB4,zB5,zB6,zB7,zB8,zB9,zCa,zCb,R.bind,OV.val,rd,stl,esc,escs,rds,isTy,truT_n,truT_b,truT_i,truT_l,truT_t,truT_s,truT_d,zCc,zCd,zCe,zCf,zCg,zCh,zCi,zCj,zCk,zCl,zCm,zCn,zCo,zCp,zCq,zCr,zCs,zCt,zCu,bop,blt,zCv,zCw,zCx,zCy,zCz,zC0,zC1,zC2,zC3,R.of,outsE,retR,putR,setV,setVs,bindTg,lend,giveBack,ownL,putL,setAt,slcD,revD,asInt,List.replicate,D_layers,h1,o1,q1,h2,o2,q2]
/-! ### one layer commutes -/
/-! ### the layers hold the steps -/
end Bide

set_option pp.maxSteps 400
set_option autoImplicit false
set_option linter.all false
set_option maxRecDepth 100000
set_option maxHeartbeats 4000000
/-! Steps that commute: heights behind the layers are those behind the steps. -/
namespace Bide
open PySem
end Bide

set_option pp.maxSteps 400
set_option autoImplicit false
set_option linter.all false
set_option maxRecDepth 100000
set_option maxHeartbeats 4000000
/-! Reductions by whomever; the law's own reduction. -/
namespace Bide
open PySem
/-! ### a value as a reduction -/
structure OkV (v : D) : Prop where
  nd : isDict v = false
  ps : ∀ ps, v = .tuple ps → ∀ p ∈ ps, flatT p
end Bide

set_option pp.maxSteps 400
set_option autoImplicit false
set_option linter.all false
set_option maxRecDepth 100000
set_option maxHeartbeats 4000000
/-! The law's own reduction. -/
namespace Bide
open PySem
/-! ### reduced -/
end Bide

set_option pp.maxSteps 400
set_option autoImplicit false
set_option linter.all false
set_option maxRecDepth 100000
set_option maxHeartbeats 4000000
/-! What reductions leave. -/
namespace Bide
open PySem
theorem gS_mem {ss : List Stp} {i : Nat} (h : i < ss.length) : gS ss i ∈ ss := by
  have : gS ss i = ss[i] := by simp [gS,List.getD,List.getElem?_eq_getElem h]
  rw [this]
  exact List.getElem_mem h
theorem hereL_mem {ss : List Stp} {L : List Int} (ok : LOk ss.length L) {s : Stp} (h : s ∈ hereL ss L) : s ∈ ss := by
  obtain ⟨i, hi, rfl⟩ := List.mem_map.mp h
  have := ok.rg i hi
  exact gS_mem (by omega)
theorem remL_len (ss : List Stp) : (remL ss).length ≤ ss.length := by
  unfold remL
  rw [hereL_len]
  exact (redn_ok ss ss.length).len
theorem red_len (ss : List Stp) : (red ss).1.length ≤ ss.length := by
  have := (redn_cnt ss ss.length).1
  show (redn ss ss.length).1.length ≤ _
  omega
theorem gd_stR (s : Stp) (m : Nat) : gd (m + 2) (stD s) = true := by
  obtain ⟨b, e, t⟩ := s
  have h : SeqAt.shaped (wrd b) = true := by cases b <;> decide +kernel
  cases b <;> (simp only [wrd_t, wrd_f] at h; simp [stD,gd,wrd_t,wrd_f,h])
theorem gd_pkR {l : List (Int × Int)} (h : l.length ≤ 1000) (m : Nat) : gd (m + 3) (.tuple (l.map pkD)) = true := gd_tup (by rw [List.length_map]; exact h) fun x hx => by
  obtain ⟨s, _, rfl⟩ := List.mem_map.mp hx
  rfl
end Bide

set_option pp.maxSteps 400
set_option autoImplicit false
set_option linter.all false
set_option maxRecDepth 100000
set_option maxHeartbeats 4000000
/-! The law's reductions by whomever. -/
namespace Bide
open PySem
/-! ### any reduction -/
end Bide

set_option pp.maxSteps 400
set_option autoImplicit false
set_option linter.all false
set_option maxRecDepth 100000
set_option maxHeartbeats 4000000
/-! Rows alike: what one further event at a place sees of steps, and that the told places tell all. -/
namespace Bide
open PySem
/-! ### which step was last -/
def act (e f a w : Int) (s : Stp) : Bool := if s.1 = true then decide (s.2.1 = e) && decide (a < s.2.2) else decide (s.2.1 = f) && decide (s.2.2 ≤ w)
def outB (e f a w : Int) (ss : List Stp) (x : Bool) : Bool := ss.foldl (fun h s => if act e f a w s = true then s.1 else h) x
/-! ### a place as a table -/
def pb (u l : Option (Int × Int)) : TB := fun i j =>
  if i = 6 then (match u with
    | some p => if j = p.1 then some p.2 else none
    | none => none)
  else if j = 6 then (match l with
    | some q => if i = q.1 then some q.2 else none
    | none => none)
  else none
/-! ### where nothing is idle -/
/-- what both are told alike: which of two steps was last -/
structure Agr (ss ss' : List Stp) : Prop where
  up : ∀ e a, (∃ t, (true, e, t) ∈ ss ∧ a < t) ↔ ∃ t, (true, e, t) ∈ ss' ∧ a < t
  lo : ∀ e a, (∃ t, (false, e, t) ∈ ss ∧ t ≤ a) ↔ ∃ t, (false, e, t) ∈ ss' ∧ t ≤ a
  two : ∀ e t f w, (true, e, t) ∈ ss ∨ (true, e, t) ∈ ss' → (false, f, w) ∈ ss ∨ (false, f, w) ∈ ss' → comm (true, e, t) (false, f, w) = false →
    outB e f (t - 1) w ss false = outB e f (t - 1) w ss' false ∧ outB e f t w ss false = outB e f t w ss' false ∧ outB e f (t - 1) (w - 1) ss false = outB e f (t - 1) (w - 1) ss' false
theorem Agr.symm {ss ss' : List Stp} (h : Agr ss ss') : Agr ss' ss := ⟨fun e a => (h.up e a).symm, fun e a => (h.lo e a).symm, fun e t f w h1 h2 h3 => by
  obtain ⟨a, b, c⟩ := h.two e t f w h1.symm h2.symm h3
  exact ⟨a.symm, b.symm, c.symm⟩⟩
/-! ### the layers are told by that -/
/-! ### the order of a layer is total -/
theorem perm_srt {α : Type} {r : α → α → Bool} (ht : ∀ a b c, r a b = true → r b c = true → r a c = true) (hl : ∀ a b, (r a b || r b a) = true) {L M : List α} (ha : ∀ a ∈ L, ∀ b ∈ L, r a b = true → r b a = true → a = b) (p : L.Perm M) : L.mergeSort r = M.mergeSort r := by
  refine List.Perm.eq_of_pairwise (le := fun a b => r a b = true) (fun a b ha1 hb1 h1 h2 => ?_) (List.pairwise_mergeSort (le := r) ht hl L) (List.pairwise_mergeSort (le := r) ht hl M) ((List.mergeSort_perm L r).trans (p.trans (List.mergeSort_perm M r).symm))
  exact ha a (List.mem_mergeSort.mp ha1) b (p.mem_iff.mpr (List.mem_mergeSort.mp hb1)) h1 h2
end Bide

set_option pp.maxSteps 400
set_option autoImplicit false
set_option linter.all false
set_option maxRecDepth 100000
set_option maxHeartbeats 4000000
/-! Heights and walks of any data: what the judges say. -/
namespace Bide
open PySem
def lenA (E : List Edg) : List D → Int
  | [] => 0
  | v :: r => (match fnd E v with
    | some e => e.w
    | none => 0) + lenA E r
def lenV (E : List Edg) (w : D) : Int := match w with
  | .tuple ds => lenA E ds
  | _ => 0
/-! ### heights -/
/-- heights with which all rules hold -/
def toI : D → Int
  | .int i => i
  | _ => 0
end Bide

set_option pp.maxSteps 400
set_option autoImplicit false
set_option linter.all false
set_option maxRecDepth 100000
set_option maxHeartbeats 4000000
/-! Rounds: the law's fewest edges. -/
namespace Bide
open PySem
end Bide

set_option pp.maxSteps 400
set_option autoImplicit false
set_option linter.all false
set_option maxRecDepth 100000
set_option maxHeartbeats 4000000
/-! What moves of a repair are explained by. -/
namespace Bide
open PySem
def exp1 (E : List Edg) (e old new : Int) (w : D) (p : Int × Int) : Bool :=
  if old < new then decide (wndV E w e = some p.1) && decide (p.2 - lenV E w = new) else decide (wndV E w p.1 = some e) && decide (p.2 + lenV E w = new)
def expl (E : List Edg) (row : List (Int × Int)) (e old new : Int) (w : D) : Bool := row.any (exp1 E e old new w)
end Bide

set_option pp.maxSteps 400
set_option autoImplicit false
set_option linter.all false
set_option maxRecDepth 100000
set_option maxHeartbeats 4000000
/-! Repairs that are accepted. -/
namespace Bide
open PySem
def movB (E : List Edg) (row : List (Int × Int)) (e old new : Int) (v : D) : Bool := match v with
  | .tuple [.int a, .int b, .int c, w] => decide (a = e ∧ b = old ∧ c = new) && expl E row e old new w
  | _ => false
end Bide

set_option pp.maxSteps 400
set_option autoImplicit false
set_option linter.all false
set_option maxRecDepth 100000
set_option maxHeartbeats 4000000
/-! Repairs that are accepted. -/
namespace Bide
open PySem
def hD : D → List Int
  | .tuple ds => ds.map toI
  | _ => []
def mvq (E : List Edg) (row : List (Int × Int)) (ts hs : List Int) (q : Nat × D) : Bool := movB E row (q.1 : Int) (tm ts (q.1 : Int)) (tm hs (q.1 : Int)) q.2
end Bide

set_option pp.maxSteps 400
set_option autoImplicit false
set_option linter.all false
set_option maxRecDepth 100000
set_option maxHeartbeats 4000000
/-! The law's own acceptance of repairs. -/
namespace Bide
open PySem
end Bide

set_option pp.maxSteps 400
set_option autoImplicit false
set_option linter.all false
set_option maxRecDepth 100000
set_option maxHeartbeats 4000000
/-! A repair with its reasons. -/
namespace Bide
open PySem
/-- a walk that tells why -/
structure Why (rs : List Rul) (row : List (Int × Int)) (e old new : Int) (q : List Edg) : Prop where
  mem : ∀ x ∈ q, x ∈ edgs rs
  len : q.length ≤ 6
  ex : expl (edgs rs) row e old new (walkD q) = true
theorem Why.gd {rs : List Rul} {row : List (Int × Int)} {e old new : Int} {q : List Edg} (h : Why rs row e old new q) : gd 3 (walkD q) = true := gd_tup (by rw [List.length_map]; have := h.len; omega) fun d hd => by
  obtain ⟨x, hx, rfl⟩ := List.mem_map.mp hd
  exact gd_ids (h.mem x hx)
end Bide

set_option pp.maxSteps 400
set_option autoImplicit false
set_option linter.all false
set_option maxRecDepth 100000
set_option maxHeartbeats 4000000
/-! The program's repair. -/
namespace Bide
open PySem
/-- a move with its reason -/
structure Mv (rs : List Rul) (row : List (Int × Int)) (ts hs : List Int) (k : Nat) (m : D) : Prop where
  q : ∃ q, m = .tuple [.int (k : Int), .int (tm ts (k : Int)), .int (tm hs (k : Int)), walkD q] ∧ Why rs row (k : Int) (tm ts (k : Int)) (tm hs (k : Int)) q
theorem Mv.gd {rs : List Rul} {row : List (Int × Int)} {ts hs : List Int} {k : Nat} {m : D} (h : Mv rs row ts hs k m) : gd 4 m = true := by
  obtain ⟨q, rfl, hw⟩ := h.q
  refine gd_tup (by simp) fun d hd => ?_
  simp only [List.mem_cons, List.not_mem_nil, or_false] at hd
  rcases hd with rfl | rfl | rfl | rfl
  · rfl
  · rfl
  · rfl
  · exact hw.gd
theorem Mv.ok {rs : List Rul} {row : List (Int × Int)} {ts hs : List Int} {k : Nat} {m : D} (h : Mv rs row ts hs k m) : mvq (edgs rs) row ts hs (k, m) = true := by
  obtain ⟨q, rfl, hw⟩ := h.q
  have := hw.ex
  simp [mvq,movB,this]
end Bide

set_option pp.maxSteps 400
set_option autoImplicit false
set_option linter.all false
set_option maxRecDepth 100000
set_option maxHeartbeats 4000000
/-! Moves that are turned. -/
namespace Bide
open PySem
/-! ### a walk as it comes -/
/-! ### a walk along twins of the rules -/
end Bide

set_option pp.maxSteps 400
set_option autoImplicit false
set_option linter.all false
set_option maxRecDepth 100000
set_option maxHeartbeats 4000000
/-! A move that is turned. -/
namespace Bide
open PySem
end Bide

set_option pp.maxSteps 400
set_option autoImplicit false
set_option linter.all false
set_option maxRecDepth 100000
set_option maxHeartbeats 4000000
/-! Evidence of bounds: told, accepted. -/
namespace Bide
open PySem
/-! ### events, sets -/
/-! ### evidence for a bound -/
def pl (b : TB) (s L : Int) (h : Int → Int) (e : Int) : Int := match b s e with
  | some d => d
  | none => h e - h s + L
/-! ### the told evidence -/
/-- evidence: two tuples, the second one of integers -/
def Told (n : Int) (v : D) : Prop := ∃ (ds : List D) (ts : List Int), v = .tuple [.tuple ds, timesD ts] ∧ ds.length ≤ 6 ∧ (∀ d ∈ ds, gd 3 d = true) ∧ ts.length ≤ 6
theorem Told.gd {n : Int} {v : D} (h : Told n v) : gd 12 v = true := by
  obtain ⟨ds, ts, rfl, h1, h2, h3⟩ := h
  refine gd_le (n := 5) (k := 7) (gd_tup (by simp) fun d hd => ?_)
  simp only [List.mem_cons, List.not_mem_nil, or_false] at hd
  rcases hd with rfl | rfl
  · exact gd_tup (by omega) h2
  · exact gd_times (by omega) 2
end Bide

set_option pp.maxSteps 400
set_option autoImplicit false
set_option linter.all false
set_option maxRecDepth 100000
set_option maxHeartbeats 4000000
/-! Rows alike: the program's short defs, the law's; when data with words, ints and None are equal. -/
namespace Bide
open PySem
/-! ### equality of plain data -/
/-! ### the law's remaining steps -/
/-! ### layers of a row -/
end Bide

set_option pp.maxSteps 400
set_option autoImplicit false
set_option linter.all false
set_option maxRecDepth 100000
set_option maxHeartbeats 4000000
/-! sorted of steps. -/
namespace Bide
open PySem
def leQ (a b : Stp) : Bool := PySem.W.dataLe false id (stD a) (stD b)
def lexQ (a b : Stp) : Bool := if a.1 = b.1 then (if a.2.1 = b.2.1 then decide (a.2.2 ≤ b.2.2) else decide (a.2.1 < b.2.1)) else b.1
theorem wrd_lt : PySem.W.dataLt (wrd true) (wrd false) = false ∧ PySem.W.dataLt (wrd false) (wrd true) = true := by decide +kernel
theorem leQ_lex (a b : Stp) : leQ a b = lexQ a b := by
  unfold leQ
  rw [PySem.W.dataLe_eq]
  simp only [id, cond, stD]
  rw [lt3 (by cases a.1 <;> cases b.1 <;> simp [wrd,PySem.W.alike]) (by simp [PySem.W.alike]) (by simp [PySem.W.alike])]
  obtain ⟨k, x, y⟩ := a
  obtain ⟨k', x', y'⟩ := b
  obtain ⟨w1, w2⟩ := wrd_lt
  have e1 : (x' = x) = (x = x') := propext ⟨Eq.symm, Eq.symm⟩
  have e2 : (y' = y) = (y = y') := propext ⟨Eq.symm, Eq.symm⟩
  simp only [eqv_wrd]
  cases k <;> cases k' <;> simp [PyData.eqv,PySem.W.dataLt_int,lexQ,e1,e2,w1,w2]
  all_goals
    by_cases c : x = x'
    · by_cases d : y = y'
      · simp [c,d]
      · simp only [c, d]; rw [Bool.eq_iff_iff]; simp
    · simp only [c]; rw [Bool.eq_iff_iff]; simp; omega
theorem lexQ_anti {a b : Stp} (h : lexQ a b = true) (h' : lexQ b a = true) : a = b := by
  obtain ⟨k, x, y⟩ := a
  obtain ⟨k', x', y'⟩ := b
  cases k <;> cases k' <;> simp [lexQ] at h h' ⊢
  all_goals
    by_cases c : x = x'
    · subst c
      simp at h h'
      exact ⟨rfl, by omega⟩
    · have c' : x' ≠ x := fun q => c q.symm
      simp [c,c'] at h h'
      omega
theorem lexQ_trans (a b c : Stp) (h : lexQ a b = true) (h' : lexQ b c = true) : lexQ a c = true := by
  obtain ⟨k, x, y⟩ := a
  obtain ⟨k', x', y'⟩ := b
  obtain ⟨k'', x'', y''⟩ := c
  cases k <;> cases k' <;> cases k'' <;> simp [lexQ] at h h' ⊢
  all_goals
    by_cases c1 : x = x' <;> by_cases c2 : x' = x'' <;> by_cases c3 : x = x'' <;> (simp only [if_pos, if_neg, c1, c2, c3, if_true, if_false, decide_eq_true_eq, not_false_eq_true] at h h' ⊢) <;> (try split at h) <;> (try split at h') <;> omega
theorem lexQ_total (a b : Stp) : (lexQ a b || lexQ b a) = true := by
  obtain ⟨k, x, y⟩ := a
  obtain ⟨k', x', y'⟩ := b
  cases k <;> cases k' <;> simp [lexQ]
  all_goals
    by_cases c : x = x'
    · subst c; simp; omega
    · have c' : x' ≠ x := fun q => c q.symm
      simp [c,c']
      omega
theorem srt_st (M : List Stp) : (M.map stD).mergeSort (PySem.W.dataLe false id) = (M.mergeSort lexQ).map stD := by
  rw [← show leQ = lexQ from funext fun a => funext fun b => leQ_lex a b]
  exact (List.map_mergeSort (f := stD) (r := leQ) (s := PySem.W.dataLe false id) fun _ _ _ _ => rfl).symm
theorem srtQ_perm {L M : List Stp} (p : L.Perm M) : L.mergeSort lexQ = M.mergeSort lexQ := perm_srt lexQ_trans lexQ_total (fun a _ b _ h1 h2 => lexQ_anti h1 h2) p
theorem alike_st (s t : Stp) : PySem.W.alike (stD s) (stD t) = true := by
  obtain ⟨k, x, y⟩ := s
  obtain ⟨k', x', y'⟩ := t
  cases k <;> cases k' <;> simp [stD,wrd,PySem.W.alike,PySem.W.alikeAll]
theorem canL_st (s : Stp) : (stD s).canLay0 = true ∧ (stD s).depth ≤ 60 := by
  obtain ⟨k, x, y⟩ := s
  have h1 : (wrd true).canLay0 = true := by decide +kernel
  have h2 : (wrd false).canLay0 = true := by decide +kernel
  cases k
  · exact ⟨by simp [stD,PyData.canLay0,PyData.canLayAll0,h2], by simp [stD,wrd,PyData.depth,PyData.depthAll]⟩
  · exact ⟨by simp [stD,PyData.canLay0,PyData.canLayAll0,h1], by simp [stD,wrd,PyData.depth,PyData.depthAll]⟩
theorem sorted_st (M : List Stp) : blt .sorted [stsD M] = some (.f (.l ((M.mergeSort lexQ).map stD))) := by
  cases M with
  | nil => simp [stsD,blt,intsL,sortI]
  | cons a r =>
    have e1 : intsL ((a :: r).map stD) = none := rfl
    have e2 : srtB ((a :: r).map stD) = true := by
      unfold srtB
      simp only [Bool.and_eq_true, List.all_eq_true]
      refine ⟨fun d hd e he => ?_, fun d hd => ?_, fun d hd => ?_⟩
      · obtain ⟨s, _, rfl⟩ := List.mem_map.mp hd
        obtain ⟨t, _, rfl⟩ := List.mem_map.mp he
        exact alike_st s t
      · obtain ⟨s, _, rfl⟩ := List.mem_map.mp hd
        rfl
      · obtain ⟨s, _, rfl⟩ := List.mem_map.mp hd
        simp [canL_st s]
    simp only [stsD, blt, e1, e2, if_true, srt_st]
theorem gd_listst {l : List Stp} (h : l.length ≤ 1000) (m : Nat) : gd (m + 3) (.list (l.map stD)) = true := by
  simp only [gd, Bool.and_eq_true, List.all_eq_true, decide_eq_true_eq, List.length_map]
  refine ⟨by omega, fun x hx => ?_⟩
  obtain ⟨s, _, rfl⟩ := List.mem_map.mp hx
  exact gd_stR s m
end Bide

set_option pp.maxSteps 400
set_option autoImplicit false
set_option linter.all false
set_option maxRecDepth 100000
set_option maxHeartbeats 4000000
/-! Steps renamed, put later, mirrored: what is idle, the reduction and the levels stay. -/
namespace Bide
open PySem
structure Sy (φ : Stp → Stp) (ss : List Stp) : Prop where
  cm : ∀ a ∈ ss, ∀ b ∈ ss, comm (φ a) (φ b) = comm a b
  kd : ∀ a ∈ ss, ∀ b ∈ ss, (decide ((φ a).1 = (φ b).1) && decide ((φ a).2.1 = (φ b).2.1)) = (decide (a.1 = b.1) && decide (a.2.1 = b.2.1))
  st : ∀ a ∈ ss, ∀ b ∈ ss, a.1 = b.1 → strg (φ a) (φ b) = strg a b
theorem Sy.sub {φ : Stp → Stp} {ss tt : List Stp} (h : Sy φ ss) (hs : ∀ s ∈ tt, s ∈ ss) : Sy φ tt := ⟨fun a ha b hb => h.cm a (hs a ha) b (hs b hb), fun a ha b hb => h.kd a (hs a ha) b (hs b hb), fun a ha b hb => h.st a (hs a ha) b (hs b hb)⟩
theorem gS_map (φ : Stp → Stp) {ss : List Stp} {i : Nat} (h : i < ss.length) : gS (ss.map φ) i = φ (gS ss i) := by simp [gS,List.getD,List.getElem?_map,List.getElem?_eq_getElem h]
theorem mids_map (φ : Stp → Stp) (ss : List Stp) (j i : Nat) : mids (ss.map φ) j i = (mids ss j i).map φ := by simp [mids,List.map_drop,List.map_take]
theorem mids_mem {ss : List Stp} {j i : Nat} {y : Stp} (h : y ∈ mids ss j i) : y ∈ ss := List.mem_of_mem_drop (List.mem_of_mem_take h)
theorem idl_sy {φ : Stp → Stp} {ss : List Stp} (h : Sy φ ss) {i j : Nat} (hi : i < ss.length) (hj : j < ss.length) : idl (ss.map φ) i j = idl ss i j := by
  have mi := gS_mem hi
  have mj := gS_mem hj
  unfold idl
  rw [gS_map φ hi, gS_map φ hj, mids_map, h.kd _ mi _ mj]
  by_cases hk : (gS ss i).1 = (gS ss j).1
  · rw [h.st _ mi _ mj hk, h.st _ mj _ mi hk.symm, List.all_map]
    have : (mids ss j i).all (comm (φ (gS ss i)) ∘ φ) = (mids ss j i).all (comm (gS ss i)) := by
      rw [Bool.eq_iff_iff, List.all_eq_true, List.all_eq_true]
      constructor
      · intro q y hy
        have := q y hy
        rwa [Function.comp, h.cm _ mi _ (mids_mem hy)] at this
      · intro q y hy
        rw [Function.comp, h.cm _ mi _ (mids_mem hy)]
        exact q y hy
    rw [this]
  · simp [hk]
theorem find_cong {α : Type} {p q : α → Bool} : ∀ {l : List α}, (∀ x ∈ l, p x = q x) → l.find? p = l.find? q
  | [], _ => rfl
  | a :: l, h => by
    rw [List.find?_cons, List.find?_cons, h a (by simp), find_cong fun x hx => h x (List.mem_cons_of_mem _ hx)]
theorem findSome_cong {α β : Type} {f g : α → Option β} : ∀ {l : List α}, (∀ x ∈ l, f x = g x) → l.findSome? f = l.findSome? g
  | [], _ => rfl
  | a :: l, h => by
    rw [List.findSome?_cons, List.findSome?_cons, h a (by simp), findSome_cong fun x hx => h x (List.mem_cons_of_mem _ hx)]
theorem whyI_sy {φ : Stp → Stp} {ss : List Stp} (h : Sy φ ss) {i : Nat} (hi : i < ss.length) : whyI (ss.map φ) i = whyI ss i := by
  unfold whyI
  rw [List.length_map]
  exact find_cong fun j hj => idl_sy h hi (List.mem_range.mp hj)
theorem firstI_sy {φ : Stp → Stp} {ss : List Stp} (h : Sy φ ss) : firstI (ss.map φ) = firstI ss := by
  unfold firstI
  rw [List.length_map]
  exact findSome_cong fun i hi => by rw [whyI_sy h (List.mem_range.mp hi)]
theorem idleL_sy {φ : Stp → Stp} {ss : List Stp} (h : Sy φ ss) : idleL (ss.map φ) = idleL ss := by
  unfold idleL
  rw [List.length_map]
  exact List.filter_congr fun i hi => by rw [whyI_sy h (List.mem_range.mp hi)]
theorem hereL_map (φ : Stp → Stp) {ss : List Stp} {L : List Int} (ok : LOk ss.length L) : hereL (ss.map φ) L = (hereL ss L).map φ := by
  unfold hereL
  rw [List.map_map]
  exact List.map_congr_left fun i hi => gS_map φ (by have := ok.rg i hi; omega)
theorem redn_sy {φ : Stp → Stp} {ss : List Stp} (h : Sy φ ss) : ∀ t, redn (ss.map φ) t = redn ss t
  | 0 => by simp [redn]
  | t + 1 => by
    have ok := redn_ok ss t
    show one (ss.map φ) (redn (ss.map φ) t) = one ss (redn ss t)
    rw [redn_sy h t]
    unfold one
    rw [hereL_map φ ok, firstI_sy (h.sub fun s hs => hereL_mem ok hs)]
theorem red_sy {φ : Stp → Stp} {ss : List Stp} (h : Sy φ ss) : red (ss.map φ) = red ss := by
  unfold red
  rw [List.length_map, redn_sy h]
theorem remL_sy {φ : Stp → Stp} {ss : List Stp} (h : Sy φ ss) : remL (ss.map φ) = (remL ss).map φ := by
  unfold remL
  rw [red_sy h]
  exact hereL_map φ (redn_ok ss ss.length)
theorem lvF_sy {φ : Stp → Stp} {ss : List Stp} : Sy φ ss → lvF (ss.map φ) = (lvF ss).map fun p => (φ p.1, p.2) := by
  induction ss using snoc_ind with
  | h0 => intro _; rfl
  | h1 l s ih =>
    intro h
    have ih := ih (h.sub fun x hx => List.mem_append_left _ hx)
    rw [List.map_append, List.map_cons, List.map_nil, lvF_snoc, lvF_snoc, ih, List.map_append, List.map_cons, List.map_nil]
    suffices q : ahd ((lvF l).map fun p => (φ p.1, p.2)) (φ s) = ahd (lvF l) s by
      unfold lvS
      rw [q]
    unfold ahd
    rw [List.filter_map, List.map_map]
    have e : (lvF l).filter ((fun p : Stp × Int => !comm p.1 (φ s)) ∘ fun p => (φ p.1, p.2)) = (lvF l).filter fun p => !comm p.1 s := by
      apply List.filter_congr
      intro p hp
      have hm : p.1 ∈ l := by
        have e := lvF_fst l
        have m : p.1 ∈ (lvF l).map (·.1) := List.mem_map.mpr ⟨p, hp, rfl⟩
        rwa [e] at m
      simp only [Function.comp]
      rw [h.cm _ (List.mem_append_left _ hm) s (by simp)]
    rw [e]
    rfl
theorem tops_sy {φ : Stp → Stp} {ss : List Stp} (h : Sy φ ss) : tops (ss.map φ) = tops ss := by
  unfold tops lvs
  rw [lvF_sy h, List.map_map]
  rfl
theorem layer_sy {φ : Stp → Stp} {ss : List Stp} (h : Sy φ ss) (l : Int) : layer (ss.map φ) l = (layer ss l).map φ := by
  unfold layer
  rw [lvF_sy h, List.filter_map, List.map_map, List.map_map]
  rfl
theorem lay_sy {φ : Stp → Stp} {ss : List Stp} (h : Sy φ ss) (l : Int) : (lay (ss.map φ) l).Perm ((lay ss l).map φ) := by
  unfold lay
  refine (List.mergeSort_perm _ _).trans ?_
  rw [layer_sy h]
  exact (List.mergeSort_perm _ _).symm.map φ
/-! ### put later, mirrored -/
theorem sy_late (n : Int) (ss : List Stp) : Sy (fun s => (s.1, s.2.1, s.2.2 + n)) ss := by
  refine ⟨fun a _ b _ => ?_, fun a _ b _ => rfl, fun a _ b _ h => ?_⟩
  · simp only [comm]
    (repeat' split) <;> first | rfl | (congr 1; simp only [decide_eq_decide]; omega)
  · obtain ⟨k, e, t⟩ := a
    cases k <;> simp only [strg, if_true, Bool.false_eq_true, if_false, decide_eq_decide] <;> omega
theorem sy_mir (ss : List Stp) : Sy (fun s => (!s.1, s.2.1, 0 - s.2.2)) ss := by
  refine ⟨fun a _ b _ => ?_, fun a _ b _ => ?_, fun a _ b _ h => ?_⟩
  · obtain ⟨k, e, t⟩ := a
    obtain ⟨k', e', t'⟩ := b
    have e1 : (e' = e) = (e = e') := propext ⟨Eq.symm, Eq.symm⟩
    cases k <;> cases k' <;> simp [comm,e1] <;> (intro _; omega)
  · obtain ⟨k, e, t⟩ := a
    obtain ⟨k', e', t'⟩ := b
    cases k <;> cases k' <;> simp
  · obtain ⟨k, e, t⟩ := a
    obtain ⟨k', e', t'⟩ := b
    cases k <;> cases k' <;> simp [strg] at h ⊢ <;> omega
def Sp_lsome3 (F : Fn) : Prop := F.io = [true, false, false] ∧ ∀ (st : List D) (events most : Int), StOk st → 1 ≤ events → events ≤ 6 → 0 ≤ most → most ≤ 100 → ∃ (st' : List D) (ss : List Stp), F.run [.list st, .int events, .int most] = .ok (.v (.tuple (ss.map stD))) [st'] ∧ StOk st' ∧ (ss.length : Int) ≤ most ∧ ∀ s ∈ ss, (StpOk s ∧ -3 ≤ s.2.2 ∧ s.2.2 ≤ 3) ∧ s.2.1 < events
theorem lsome3_ok (c : Cf) (h1 : Has c "_law_next" Sp_next) : Sp_lsome3 (D_law_some_steps.fn c) := by
  obtain ⟨F, h1, hio, hr⟩ := h1
  refine ⟨rfl, fun st events most hst v1 v6 m0 m8 => ?_⟩
  suffices h : ∃ r o, (D_law_some_steps.fn c).run [.list st, .int events, .int most] = .ok r o ∧ ∃ (st' : List D) (ss : List Stp), r = .v (.tuple (ss.map stD)) ∧ o = [st'] ∧ StOk st' ∧ (ss.length : Int) ≤ most ∧ ∀ s ∈ ss, (StpOk s ∧ -3 ≤ s.2.2 ∧ s.2.2 ≤ 3) ∧ s.2.1 < events by
    obtain ⟨r, o, h1, st', row, rfl, rfl, h2⟩ := h
    exact ⟨st', row, h1, h2⟩
  refine run_wp rfl ?_
  simp only [D_law_some_steps]
  obtain ⟨st1, m, e1, k1, a0, a1⟩ := hr st (most + 1) hst (by omega) (by omega)
  have hmr : m ≤ 16777216 := by omega
  have hmr' : -4611686018427387904 ≤ m := by omega
  refine zDf (by simp [Def.fn,mkF,runF,startE,zAa,zAb,zAc,zAd,zAe,zAf,zAg,zAh,zAi,zAj,zAk,zAl,zAm,zAn,zAo,zAp,zAq,zAr,zAs,zAt,zAu,zAv,zAw,zAx,zAy,zAz,zA0,zA1,zA2,zA3,zA4,zA5,zA6,zA7,zA8,zA9,zBa,zBb,zBc,zBd,zBe,zBf,zBg,zBh,zBi,zBj,zBk,zBl,zBm,zBn,zBo,zBp,zBq,zBr,zBs,zBt,zBu,zBv,zBw,zBx,zBy,zBz,zB0,zB1,zB2,zB3,zB4,zB5,zB6,zB7,zB8,zB9,zCa,zCb,R.bind,OV.val,rd,stl,esc,escs,rds,isTy,truT_n,truT_b,truT_i,truT_l,truT_t,truT_s,truT_d,zCc,zCd,zCe,zCf,zCg,zCh,zCi,zCj,zCk,zCl,zCm,zCn,zCo,zCp,zCq,zCr,zCs,zCt,zCu,bop,blt,zCv,zCw,zCx,zCy,zCz,zC0,zC1,zC2,zC3,R.of,outsE,retR,putR,zC4,zC5,zC6,zC7,zC8,setVs,bindTg,lend,giveBack,ownL,putL,setAt,slcD,revD,asInt,List.replicate]; first | done | rfl | exact ⟨rfl, rfl⟩ | (constructor <;> rfl)) ?_
  refine wp_for (as := List.range m.toNat) (enc := fun (i : Nat) => .int (i : Int)) (fun pre e => ∃ (st : List D) (ss : List Stp), StOk st ∧ ss.length = pre.length ∧ (∀ s ∈ ss, (StpOk s ∧ -3 ≤ s.2.2 ∧ s.2.2 ≤ 3) ∧ s.2.1 < events) ∧ Fits [some (.io st), some (.sh (.int events)), some (.sh (.int most)), some (.ow (.l (ss.map stD))), none, none] e)
    (by simp [Def.fn,mkF,runF,startE,zAa,zAb,zAc,zAd,zAe,zAf,zAg,zAh,zAi,zAj,zAk,zAl,zAm,zAn,zAo,zAp,zAq,zAr,zAs,zAt,zAu,zAv,zAw,zAx,zAy,zAz,zA0,zA1,zA2,zA3,zA4,zA5,zA6,zA7,zA8,zA9,zBa,zBb,zBc,zBd,zBe,zBf,zBg,zBh,zBi,zBj,zBk,zBl,zBm,zBn,zBo,zBp,zBq,zBr,zBs,zBt,zBu,zBv,zBw,zBx,zBy,zBz,zB0,zB1,zB2,zB3,zB4,zB5,zB6,zB7,zB8,zB9,zCa,zCb,R.bind,OV.val,rd,stl,esc,escs,rds,isTy,truT_n,truT_b,truT_i,truT_l,truT_t,truT_s,truT_d,zCc,zCd,zCe,zCf,zCg,zCh,zCi,zCj,zCk,zCl,zCm,zCn,zCo,zCp,zCq,zCr,zCs,zCt,zCu,bop,blt,zCv,zCw,zCx,zCy,zCz,zC0,zC1,zC2,zC3,R.of,outsE,retR,putR,zC4,zC5,zC6,zC7,zC8,setVs,bindTg,lend,giveBack,ownL,putL,setAt,slcD,revD,asInt,List.replicate,h1,hio,e1,hmr,hmr',line,rng0]; first | done | rfl | exact ⟨rfl, rfl⟩ | (constructor <;> rfl)) ⟨st1, [], k1, rfl, by simp, by simp [zDc,zDd,zDe,zC9,zDa,zDb]⟩ ?_ ?_
  · rintro pre i suf has e ⟨st2, ss, k2, hl, hp, ⟨_, rfl, _, rfl, _, rfl, _, rfl, y4, _, rfl, i4, y5, _, rfl, i5, rfl⟩⟩
    have l1 := (preL has).1
    rw [List.length_range] at l1
    obtain ⟨st3, w, e3, k3, w0, w1⟩ := hr st2 2 k2 (by omega) (by omega)
    obtain ⟨st4, x, e4, k4, x0, x1⟩ := hr st3 events k3 (by omega) (by omega)
    obtain ⟨st5, y, e5, k5, y0, y1⟩ := hr st4 7 k4 (by omega) (by omega)
    have la : ss.length < 16777216 := by omega
    obtain ⟨b, hb⟩ : ∃ b, atD [PyData.str (Str.ofString "raise"), PyData.str (Str.ofString "lower")] w = some (wrd b) := by
      have : w = 0 ∨ w = 1 := by omega
      rcases this with rfl | rfl
      · exact ⟨true, rfl⟩
      · exact ⟨false, rfl⟩
    refine ⟨_, by simp [Def.fn,mkF,runF,startE,zAa,zAb,zAc,zAd,zAe,zAf,zAg,zAh,zAi,zAj,zAk,zAl,zAm,zAn,zAo,zAp,zAq,zAr,zAs,zAt,zAu,zAv,zAw,zAx,zAy,zAz,zA0,zA1,zA2,zA3,zA4,zA5,zA6,zA7,zA8,zA9,zBa,zBb,zBc,zBd,zBe,zBf,zBg,zBh,zBi,zBj,zBk,zBl,zBm,zBn,zBo,zBp,zBq,zBr,zBs,zBt,zBu,zBv,zBw,zBx,zBy,zBz,zB0,zB1,zB2,zB3,zB4,zB5,zB6,zB7,zB8,zB9,zCa,zCb,R.bind,OV.val,rd,stl,esc,escs,rds,isTy,truT_n,truT_b,truT_i,truT_l,truT_t,truT_s,truT_d,zCc,zCd,zCe,zCf,zCg,zCh,zCi,zCj,zCk,zCl,zCm,zCn,zCo,zCp,zCq,zCr,zCs,zCt,zCu,bop,blt,zCv,zCw,zCx,zCy,zCz,zC0,zC1,zC2,zC3,R.of,outsE,retR,putR,zC4,zC5,zC6,zC7,zC8,setVs,bindTg,lend,giveBack,ownL,putL,setAt,slcD,revD,asInt,List.replicate,i4]; first | done | rfl | exact ⟨rfl, rfl⟩ | (constructor <;> rfl), ?_⟩
    refine zDf (by simp [Def.fn,mkF,runF,startE,zAa,zAb,zAc,zAd,zAe,zAf,zAg,zAh,zAi,zAj,zAk,zAl,zAm,zAn,zAo,zAp,zAq,zAr,zAs,zAt,zAu,zAv,zAw,zAx,zAy,zAz,zA0,zA1,zA2,zA3,zA4,zA5,zA6,zA7,zA8,zA9,zBa,zBb,zBc,zBd,zBe,zBf,zBg,zBh,zBi,zBj,zBk,zBl,zBm,zBn,zBo,zBp,zBq,zBr,zBs,zBt,zBu,zBv,zBw,zBx,zBy,zBz,zB0,zB1,zB2,zB3,zB4,zB5,zB6,zB7,zB8,zB9,zCa,zCb,R.bind,OV.val,rd,stl,esc,escs,rds,isTy,truT_n,truT_b,truT_i,truT_l,truT_t,truT_s,truT_d,zCc,zCd,zCe,zCf,zCg,zCh,zCi,zCj,zCk,zCl,zCm,zCn,zCo,zCp,zCq,zCr,zCs,zCt,zCu,bop,blt,zCv,zCw,zCx,zCy,zCz,zC0,zC1,zC2,zC3,R.of,outsE,retR,putR,zC4,zC5,zC6,zC7,zC8,setVs,bindTg,lend,giveBack,ownL,putL,setAt,slcD,revD,asInt,List.replicate,h1,hio,e3,hb,line,i5]; first | done | rfl | exact ⟨rfl, rfl⟩ | (constructor <;> rfl)) (zDf (by simp [Def.fn,mkF,runF,startE,zAa,zAb,zAc,zAd,zAe,zAf,zAg,zAh,zAi,zAj,zAk,zAl,zAm,zAn,zAo,zAp,zAq,zAr,zAs,zAt,zAu,zAv,zAw,zAx,zAy,zAz,zA0,zA1,zA2,zA3,zA4,zA5,zA6,zA7,zA8,zA9,zBa,zBb,zBc,zBd,zBe,zBf,zBg,zBh,zBi,zBj,zBk,zBl,zBm,zBn,zBo,zBp,zBq,zBr,zBs,zBt,zBu,zBv,zBw,zBx,zBy,zBz,zB0,zB1,zB2,zB3,zB4,zB5,zB6,zB7,zB8,zB9,zCa,zCb,R.bind,OV.val,rd,stl,esc,escs,rds,isTy,truT_n,truT_b,truT_i,truT_l,truT_t,truT_s,truT_d,zCc,zCd,zCe,zCf,zCg,zCh,zCi,zCj,zCk,zCl,zCm,zCn,zCo,zCp,zCq,zCr,zCs,zCt,zCu,bop,blt,zCv,zCw,zCx,zCy,zCz,zC0,zC1,zC2,zC3,R.of,outsE,retR,putR,zC4,zC5,zC6,zC7,zC8,setVs,bindTg,lend,giveBack,ownL,putL,setAt,slcD,revD,asInt,List.replicate,h1,hio,e4,e5,line,mth,la]; first | done | rfl | exact ⟨rfl, rfl⟩ | (constructor <;> rfl)) (zDg ?_))
    refine ⟨st5, ss ++ [(b, x, y - 3)], k5, by simp [hl], fun z hz => ?_, by simp [zDc,zDd,zDe,zC9,zDa,zDb,stD]⟩
    rcases List.mem_append.mp hz with hz | hz
    · exact hp z hz
    · simp at hz; subst hz; exact ⟨⟨⟨x0, by simp only; omega, by simp only; omega, by simp only; omega⟩, by simp only; omega, by simp only; omega⟩, x1⟩
  · rintro e ⟨st2, ss, k2, hl, hp, ⟨_, rfl, _, rfl, _, rfl, _, rfl, y4, _, rfl, i4, y5, _, rfl, i5, rfl⟩⟩
    rw [List.length_range] at hl
    refine zDj (by simp [Def.fn,mkF,runF,startE,zAa,zAb,zAc,zAd,zAe,zAf,zAg,zAh,zAi,zAj,zAk,zAl,zAm,zAn,zAo,zAp,zAq,zAr,zAs,zAt,zAu,zAv,zAw,zAx,zAy,zAz,zA0,zA1,zA2,zA3,zA4,zA5,zA6,zA7,zA8,zA9,zBa,zBb,zBc,zBd,zBe,zBf,zBg,zBh,zBi,zBj,zBk,zBl,zBm,zBn,zBo,zBp,zBq,zBr,zBs,zBt,zBu,zBv,zBw,zBx,zBy,zBz,zB0,zB1,zB2,zB3,zB4,zB5,zB6,zB7,zB8,zB9,zCa,zCb,R.bind,OV.val,rd,stl,esc,escs,rds,isTy,truT_n,truT_b,truT_i,truT_l,truT_t,truT_s,truT_d,zCc,zCd,zCe,zCf,zCg,zCh,zCi,zCj,zCk,zCl,zCm,zCn,zCo,zCp,zCq,zCr,zCs,zCt,zCu,bop,blt,zCv,zCw,zCx,zCy,zCz,zC0,zC1,zC2,zC3,R.of,outsE,retR,putR,zC4,zC5,zC6,zC7,zC8,setVs,bindTg,lend,giveBack,ownL,putL,setAt,slcD,revD,asInt,List.replicate]; first | done | rfl | exact ⟨rfl, rfl⟩ | (constructor <;> rfl)) (by simp [Def.fn,mkF,runF,startE,zAa,zAb,zAc,zAd,zAe,zAf,zAg,zAh,zAi,zAj,zAk,zAl,zAm,zAn,zAo,zAp,zAq,zAr,zAs,zAt,zAu,zAv,zAw,zAx,zAy,zAz,zA0,zA1,zA2,zA3,zA4,zA5,zA6,zA7,zA8,zA9,zBa,zBb,zBc,zBd,zBe,zBf,zBg,zBh,zBi,zBj,zBk,zBl,zBm,zBn,zBo,zBp,zBq,zBr,zBs,zBt,zBu,zBv,zBw,zBx,zBy,zBz,zB0,zB1,zB2,zB3,zB4,zB5,zB6,zB7,zB8,zB9,zCa,zCb,R.bind,OV.val,rd,stl,esc,escs,rds,isTy,truT_n,truT_b,truT_i,truT_l,truT_t,truT_s,truT_d,zCc,zCd,zCe,zCf,zCg,zCh,zCi,zCj,zCk,zCl,zCm,zCn,zCo,zCp,zCq,zCr,zCs,zCt,zCu,bop,blt,zCv,zCw,zCx,zCy,zCz,zC0,zC1,zC2,zC3,R.of,outsE,retR,putR,zC4,zC5,zC6,zC7,zC8,setVs,bindTg,lend,giveBack,ownL,putL,setAt,slcD,revD,asInt,List.replicate]; first | done | rfl | exact ⟨rfl, rfl⟩ | (constructor <;> rfl)) ?_
    exact ⟨[st2], rfl, st2, ss, rfl, rfl, k2, by omega, hp⟩
end Bide

set_option pp.maxSteps 400
set_option autoImplicit false
set_option linter.all false
set_option maxRecDepth 100000
set_option maxHeartbeats 4000000
namespace Bide
open PySem
def nmS (n s : Int) (a : Stp) : Stp := (if s < 0 then !a.1 else a.1, a.2.1, s * a.2.2 + n)
theorem sorted_stL (M : List Stp) : blt .sorted [.list (M.map stD)] = some (.f (.l ((M.mergeSort lexQ).map stD))) := by
  have h := sorted_st M
  simp only [stsD, blt] at h ⊢
  exact h
theorem turned_at (k : Bool) : atD [.str (Str.ofString "raise"), .str (Str.ofString "lower")] (if k = true then 1 else 0) = some (wrd (!k)) := by cases k <;> rfl
def nmR (n s : Int) (L : List Stp) : D := .list (((L.map (nmS n s)).mergeSort lexQ).map stD)
def Sp_lnames (F : Fn) : Prop := F.io = [false, false, false] ∧ ∀ (Ls : List (List Stp)) (n s : Int), Ls.length ≤ 1000 → (∀ L ∈ Ls, L.length ≤ 1000) → (s = 1 ∨ s = -1) → F.run [.tuple (Ls.map stsD), .int n, .int s] = .ok (.f (.l (Ls.map (nmR n s)))) []
theorem lnames_ok (c : Cf) : Sp_lnames (D_law_names.fn c) := by
  refine ⟨rfl, fun Ls n s hl hls hs => run_eq rfl ?_⟩
  simp only [D_law_names]
  obtain ⟨TD, hTD⟩ : ∃ TD, TD = PyData.tuple (Ls.map stsD) := ⟨_, rfl⟩
  have sT : seqOf TD = some (Ls.map stsD) := by rw [hTD]; rfl
  rw [← hTD]
  refine zDf (e1 := [.sh TD, .sh (.int n), .sh (.int s), .ow (.l []), .no, .no, .no, .no, .no, .no]) (by simp [Def.fn,mkF,runF,startE,zAa,zAb,zAc,zAd,zAe,zAf,zAg,zAh,zAi,zAj,zAk,zAl,zAm,zAn,zAo,zAp,zAq,zAr,zAs,zAt,zAu,zAv,zAw,zAx,zAy,zAz,zA0,zA1,zA2,zA3,zA4,zA5,zA6,zA7,zA8,zA9,zBa,zBb,zBc,zBd,zBe,zBf,zBg,zBh,zBi,zBj,zBk,zBl,zBm,zBn,zBo,zBp,zBq,zBr,zBs,zBt,zBu,zBv,zBw,zBx,zBy,zBz,zB0,zB1,zB2,zB3,zB4,zB5,zB6,zB7,zB8,zB9,zCa,zCb,R.bind,OV.val,rd,stl,esc,escs,rds,isTy,truT_n,truT_b,truT_i,truT_l,truT_t,truT_s,truT_d,zCc,zCd,zCe,zCf,zCg,zCh,zCi,zCj,zCk,zCl,zCm,zCn,zCo,zCp,zCq,zCr,zCs,zCt,zCu,bop,blt,zCv,zCw,zCx,zCy,zCz,zC0,zC1,zC2,zC3,R.of,outsE,retR,putR,zC4,zC5,zC6,zC7,zC8,setVs,bindTg,lend,giveBack,ownL,putL,setAt,slcD,revD,asInt,List.replicate]) ?_
  refine wp_for (as := Ls) (enc := stsD) (fun pre ev => Fits [some (.sh TD), some (.sh (.int n)), some (.sh (.int s)), some (.ow (.l (pre.map (nmR n s)))), none, none, none, none, none, none] ev)
    (by simp [Def.fn,mkF,runF,startE,zAa,zAb,zAc,zAd,zAe,zAf,zAg,zAh,zAi,zAj,zAk,zAl,zAm,zAn,zAo,zAp,zAq,zAr,zAs,zAt,zAu,zAv,zAw,zAx,zAy,zAz,zA0,zA1,zA2,zA3,zA4,zA5,zA6,zA7,zA8,zA9,zBa,zBb,zBc,zBd,zBe,zBf,zBg,zBh,zBi,zBj,zBk,zBl,zBm,zBn,zBo,zBp,zBq,zBr,zBs,zBt,zBu,zBv,zBw,zBx,zBy,zBz,zB0,zB1,zB2,zB3,zB4,zB5,zB6,zB7,zB8,zB9,zCa,zCb,R.bind,OV.val,rd,stl,esc,escs,rds,isTy,truT_n,truT_b,truT_i,truT_l,truT_t,truT_s,truT_d,zCc,zCd,zCe,zCf,zCg,zCh,zCi,zCj,zCk,zCl,zCm,zCn,zCo,zCp,zCq,zCr,zCs,zCt,zCu,bop,blt,zCv,zCw,zCx,zCy,zCz,zC0,zC1,zC2,zC3,R.of,outsE,retR,putR,zC4,zC5,zC6,zC7,zC8,setVs,bindTg,lend,giveBack,ownL,putL,setAt,slcD,revD,asInt,List.replicate,sT]; first | done | rfl | exact ⟨rfl, rfl⟩ | (constructor <;> rfl)) (by simp [zDc,zDd,zDe,zC9,zDa,zDb]) ?_ ?_
  · rintro pre L suf has _ ⟨_, rfl, _, rfl, _, rfl, _, rfl, y4, _, rfl, i4, y5, _, rfl, i5, y6, _, rfl, i6, y7, _, rfl, i7, y8, _, rfl, i8, y9, _, rfl, i9, rfl⟩
    have hLl := hls L (by rw [has]; simp)
    have hpl : (pre.map (nmR n s)).length < 16777216 := by have := (preL has).1; rw [List.length_map]; omega
    rw [List.map_append, List.map_cons, List.map_nil]
    generalize pre.map (nmR n s) = FD at hpl ⊢
    obtain ⟨LD, hLD⟩ : ∃ LD, LD = stsD L := ⟨_, rfl⟩
    have sL : seqOf LD = some (L.map stD) := by rw [hLD]; rfl
    rw [← hLD]
    refine ⟨[.sh TD, .sh (.int n), .sh (.int s), .ow (.l FD), .sh LD, y5, y6, y7, y8, y9], by simp [Def.fn,mkF,runF,startE,zAa,zAb,zAc,zAd,zAe,zAf,zAg,zAh,zAi,zAj,zAk,zAl,zAm,zAn,zAo,zAp,zAq,zAr,zAs,zAt,zAu,zAv,zAw,zAx,zAy,zAz,zA0,zA1,zA2,zA3,zA4,zA5,zA6,zA7,zA8,zA9,zBa,zBb,zBc,zBd,zBe,zBf,zBg,zBh,zBi,zBj,zBk,zBl,zBm,zBn,zBo,zBp,zBq,zBr,zBs,zBt,zBu,zBv,zBw,zBx,zBy,zBz,zB0,zB1,zB2,zB3,zB4,zB5,zB6,zB7,zB8,zB9,zCa,zCb,R.bind,OV.val,rd,stl,esc,escs,rds,isTy,truT_n,truT_b,truT_i,truT_l,truT_t,truT_s,truT_d,zCc,zCd,zCe,zCf,zCg,zCh,zCi,zCj,zCk,zCl,zCm,zCn,zCo,zCp,zCq,zCr,zCs,zCt,zCu,bop,blt,zCv,zCw,zCx,zCy,zCz,zC0,zC1,zC2,zC3,R.of,outsE,retR,putR,zC4,zC5,zC6,zC7,zC8,setVs,bindTg,lend,giveBack,ownL,putL,setAt,slcD,revD,asInt,List.replicate,i4], ?_⟩
    refine zDf (e1 := [.sh TD, .sh (.int n), .sh (.int s), .ow (.l FD), .sh LD, .ow (.l []), y6, y7, y8, y9]) (by simp [Def.fn,mkF,runF,startE,zAa,zAb,zAc,zAd,zAe,zAf,zAg,zAh,zAi,zAj,zAk,zAl,zAm,zAn,zAo,zAp,zAq,zAr,zAs,zAt,zAu,zAv,zAw,zAx,zAy,zAz,zA0,zA1,zA2,zA3,zA4,zA5,zA6,zA7,zA8,zA9,zBa,zBb,zBc,zBd,zBe,zBf,zBg,zBh,zBi,zBj,zBk,zBl,zBm,zBn,zBo,zBp,zBq,zBr,zBs,zBt,zBu,zBv,zBw,zBx,zBy,zBz,zB0,zB1,zB2,zB3,zB4,zB5,zB6,zB7,zB8,zB9,zCa,zCb,R.bind,OV.val,rd,stl,esc,escs,rds,isTy,truT_n,truT_b,truT_i,truT_l,truT_t,truT_s,truT_d,zCc,zCd,zCe,zCf,zCg,zCh,zCi,zCj,zCk,zCl,zCm,zCn,zCo,zCp,zCq,zCr,zCs,zCt,zCu,bop,blt,zCv,zCw,zCx,zCy,zCz,zC0,zC1,zC2,zC3,R.of,outsE,retR,putR,zC4,zC5,zC6,zC7,zC8,setVs,bindTg,lend,giveBack,ownL,putL,setAt,slcD,revD,asInt,List.replicate,i5]) ?_
    refine wp_for (as := L) (enc := stD) (fun pre2 ev => Fits [some (.sh TD), some (.sh (.int n)), some (.sh (.int s)), some (.ow (.l FD)), some (.sh LD), some (.ow (.l ((pre2.map (nmS n s)).map stD))), none, none, none, none] ev)
      (by simp [Def.fn,mkF,runF,startE,zAa,zAb,zAc,zAd,zAe,zAf,zAg,zAh,zAi,zAj,zAk,zAl,zAm,zAn,zAo,zAp,zAq,zAr,zAs,zAt,zAu,zAv,zAw,zAx,zAy,zAz,zA0,zA1,zA2,zA3,zA4,zA5,zA6,zA7,zA8,zA9,zBa,zBb,zBc,zBd,zBe,zBf,zBg,zBh,zBi,zBj,zBk,zBl,zBm,zBn,zBo,zBp,zBq,zBr,zBs,zBt,zBu,zBv,zBw,zBx,zBy,zBz,zB0,zB1,zB2,zB3,zB4,zB5,zB6,zB7,zB8,zB9,zCa,zCb,R.bind,OV.val,rd,stl,esc,escs,rds,isTy,truT_n,truT_b,truT_i,truT_l,truT_t,truT_s,truT_d,zCc,zCd,zCe,zCf,zCg,zCh,zCi,zCj,zCk,zCl,zCm,zCn,zCo,zCp,zCq,zCr,zCs,zCt,zCu,bop,blt,zCv,zCw,zCx,zCy,zCz,zC0,zC1,zC2,zC3,R.of,outsE,retR,putR,zC4,zC5,zC6,zC7,zC8,setVs,bindTg,lend,giveBack,ownL,putL,setAt,slcD,revD,asInt,List.replicate,sL]; first | done | rfl | exact ⟨rfl, rfl⟩ | (constructor <;> rfl)) (by simp [zDc,zDd,zDe,zC9,zDa,zDb,i6,i7,i8,i9]) ?_ ?_
    · clear i4 i5 i6 i7 i8 i9
      rintro pre2 a suf2 has2 _ ⟨_, rfl, _, rfl, _, rfl, _, rfl, _, rfl, _, rfl, y6, _, rfl, i6, y7, _, rfl, i7, y8, _, rfl, i8, y9, _, rfl, i9, rfl⟩
      have hp2 : ((pre2.map (nmS n s)).map stD).length < 16777216 := by have := (preL has2).1; rw [List.length_map, List.length_map]; omega
      rw [List.map_append, List.map_append, List.map_cons, List.map_nil, List.map_cons, List.map_nil]
      generalize (pre2.map (nmS n s)).map stD = RD at hp2 ⊢
      obtain ⟨k, e, t⟩ := a
      have tk := turned_at k
      have wr := wrd_r k
      have hin : stD (k, e, t) = .tuple [wrd k, .int e, .int t] := rfl
      have hres : stD (nmS n s (k, e, t)) = .tuple [wrd (if s < 0 then !k else k), .int e, .int (s * t + n)] := rfl
      rw [hin, hres]
      have hmul : ((-(2 ^ 64) < s ∧ s < 2 ^ 64) ∨ (-(2 ^ 64) < t ∧ t < 2 ^ 64)) := by rcases hs with rfl | rfl <;> simp
      have hmul' : (-18446744073709551616 < s ∧ s < 18446744073709551616) := by rcases hs with rfl | rfl <;> simp
      by_cases sn : s < 0
      · rw [if_pos sn]
        generalize wrd k = W at wr
        generalize wrd (!k) = W' at tk ⊢
        refine ⟨[.sh TD, .sh (.int n), .sh (.int s), .ow (.l FD), .sh LD, .ow (.l RD), .sh W, .sh (.int e), .sh (.int t), y9], by simp [Def.fn,mkF,runF,startE,zAa,zAb,zAc,zAd,zAe,zAf,zAg,zAh,zAi,zAj,zAk,zAl,zAm,zAn,zAo,zAp,zAq,zAr,zAs,zAt,zAu,zAv,zAw,zAx,zAy,zAz,zA0,zA1,zA2,zA3,zA4,zA5,zA6,zA7,zA8,zA9,zBa,zBb,zBc,zBd,zBe,zBf,zBg,zBh,zBi,zBj,zBk,zBl,zBm,zBn,zBo,zBp,zBq,zBr,zBs,zBt,zBu,zBv,zBw,zBx,zBy,zBz,zB0,zB1,zB2,zB3,zB4,zB5,zB6,zB7,zB8,zB9,zCa,zCb,R.bind,OV.val,rd,stl,esc,escs,rds,isTy,truT_n,truT_b,truT_i,truT_l,truT_t,truT_s,truT_d,zCc,zCd,zCe,zCf,zCg,zCh,zCi,zCj,zCk,zCl,zCm,zCn,zCo,zCp,zCq,zCr,zCs,zCt,zCu,bop,blt,zCv,zCw,zCx,zCy,zCz,zC0,zC1,zC2,zC3,R.of,outsE,retR,putR,zC4,zC5,zC6,zC7,zC8,setVs,bindTg,lend,giveBack,ownL,putL,setAt,slcD,revD,asInt,List.replicate,i6,i7,i8], ?_⟩
        refine zDf (e1 := [.sh TD, .sh (.int n), .sh (.int s), .ow (.l FD), .sh LD, .ow (.l RD), .sh W, .sh (.int e), .sh (.int t), .sh W]) (by simp [Def.fn,mkF,runF,startE,zAa,zAb,zAc,zAd,zAe,zAf,zAg,zAh,zAi,zAj,zAk,zAl,zAm,zAn,zAo,zAp,zAq,zAr,zAs,zAt,zAu,zAv,zAw,zAx,zAy,zAz,zA0,zA1,zA2,zA3,zA4,zA5,zA6,zA7,zA8,zA9,zBa,zBb,zBc,zBd,zBe,zBf,zBg,zBh,zBi,zBj,zBk,zBl,zBm,zBn,zBo,zBp,zBq,zBr,zBs,zBt,zBu,zBv,zBw,zBx,zBy,zBz,zB0,zB1,zB2,zB3,zB4,zB5,zB6,zB7,zB8,zB9,zCa,zCb,R.bind,OV.val,rd,stl,esc,escs,rds,isTy,truT_n,truT_b,truT_i,truT_l,truT_t,truT_s,truT_d,zCc,zCd,zCe,zCf,zCg,zCh,zCi,zCj,zCk,zCl,zCm,zCn,zCo,zCp,zCq,zCr,zCs,zCt,zCu,bop,blt,zCv,zCw,zCx,zCy,zCz,zC0,zC1,zC2,zC3,R.of,outsE,retR,putR,zC4,zC5,zC6,zC7,zC8,setVs,bindTg,lend,giveBack,ownL,putL,setAt,slcD,revD,asInt,List.replicate,i9]) ?_
        refine zDi (e1 := [.sh TD, .sh (.int n), .sh (.int s), .ow (.l FD), .sh LD, .ow (.l RD), .sh W, .sh (.int e), .sh (.int t), .sh W]) (by simp [Def.fn,mkF,runF,startE,zAa,zAb,zAc,zAd,zAe,zAf,zAg,zAh,zAi,zAj,zAk,zAl,zAm,zAn,zAo,zAp,zAq,zAr,zAs,zAt,zAu,zAv,zAw,zAx,zAy,zAz,zA0,zA1,zA2,zA3,zA4,zA5,zA6,zA7,zA8,zA9,zBa,zBb,zBc,zBd,zBe,zBf,zBg,zBh,zBi,zBj,zBk,zBl,zBm,zBn,zBo,zBp,zBq,zBr,zBs,zBt,zBu,zBv,zBw,zBx,zBy,zBz,zB0,zB1,zB2,zB3,zB4,zB5,zB6,zB7,zB8,zB9,zCa,zCb,R.bind,OV.val,rd,stl,esc,escs,rds,isTy,truT_n,truT_b,truT_i,truT_l,truT_t,truT_s,truT_d,zCc,zCd,zCe,zCf,zCg,zCh,zCi,zCj,zCk,zCl,zCm,zCn,zCo,zCp,zCq,zCr,zCs,zCt,zCu,bop,blt,zCv,zCw,zCx,zCy,zCz,zC0,zC1,zC2,zC3,R.of,outsE,retR,putR,zC4,zC5,zC6,zC7,zC8,setVs,bindTg,lend,giveBack,ownL,putL,setAt,slcD,revD,asInt,List.replicate,sn]) ?_
        refine zDf (e1 := [.sh TD, .sh (.int n), .sh (.int s), .ow (.l FD), .sh LD, .ow (.l RD), .sh W, .sh (.int e), .sh (.int t), .sh W']) (by simp [Def.fn,mkF,runF,startE,zAa,zAb,zAc,zAd,zAe,zAf,zAg,zAh,zAi,zAj,zAk,zAl,zAm,zAn,zAo,zAp,zAq,zAr,zAs,zAt,zAu,zAv,zAw,zAx,zAy,zAz,zA0,zA1,zA2,zA3,zA4,zA5,zA6,zA7,zA8,zA9,zBa,zBb,zBc,zBd,zBe,zBf,zBg,zBh,zBi,zBj,zBk,zBl,zBm,zBn,zBo,zBp,zBq,zBr,zBs,zBt,zBu,zBv,zBw,zBx,zBy,zBz,zB0,zB1,zB2,zB3,zB4,zB5,zB6,zB7,zB8,zB9,zCa,zCb,R.bind,OV.val,rd,stl,esc,escs,rds,isTy,truT_n,truT_b,truT_i,truT_l,truT_t,truT_s,truT_d,zCc,zCd,zCe,zCf,zCg,zCh,zCi,zCj,zCk,zCl,zCm,zCn,zCo,zCp,zCq,zCr,zCs,zCt,zCu,bop,blt,zCv,zCw,zCx,zCy,zCz,zC0,zC1,zC2,zC3,R.of,outsE,retR,putR,zC4,zC5,zC6,zC7,zC8,setVs,bindTg,lend,giveBack,ownL,putL,setAt,slcD,revD,asInt,List.replicate,wr,tk,line]) (zDg ?_)
        refine zDf (e1 := [.sh TD, .sh (.int n), .sh (.int s), .ow (.l FD), .sh LD, .ow (.l (RD ++ [.tuple [W', .int e, .int (s * t + n)]])), .sh W, .sh (.int e), .sh (.int t), .sh W']) (by simp [Def.fn,mkF,runF,startE,zAa,zAb,zAc,zAd,zAe,zAf,zAg,zAh,zAi,zAj,zAk,zAl,zAm,zAn,zAo,zAp,zAq,zAr,zAs,zAt,zAu,zAv,zAw,zAx,zAy,zAz,zA0,zA1,zA2,zA3,zA4,zA5,zA6,zA7,zA8,zA9,zBa,zBb,zBc,zBd,zBe,zBf,zBg,zBh,zBi,zBj,zBk,zBl,zBm,zBn,zBo,zBp,zBq,zBr,zBs,zBt,zBu,zBv,zBw,zBx,zBy,zBz,zB0,zB1,zB2,zB3,zB4,zB5,zB6,zB7,zB8,zB9,zCa,zCb,R.bind,OV.val,rd,stl,esc,escs,rds,isTy,truT_n,truT_b,truT_i,truT_l,truT_t,truT_s,truT_d,zCc,zCd,zCe,zCf,zCg,zCh,zCi,zCj,zCk,zCl,zCm,zCn,zCo,zCp,zCq,zCr,zCs,zCt,zCu,bop,blt,zCv,zCw,zCx,zCy,zCz,zC0,zC1,zC2,zC3,R.of,outsE,retR,putR,zC4,zC5,zC6,zC7,zC8,setVs,bindTg,lend,giveBack,ownL,putL,setAt,slcD,revD,asInt,List.replicate,line,mth,hp2,hmul']) (zDg ?_)
        simp [zDc,zDd,zDe,zC9,zDa,zDb]
      · rw [if_neg sn]
        generalize wrd k = W at wr ⊢
        refine ⟨[.sh TD, .sh (.int n), .sh (.int s), .ow (.l FD), .sh LD, .ow (.l RD), .sh W, .sh (.int e), .sh (.int t), y9], by simp [Def.fn,mkF,runF,startE,zAa,zAb,zAc,zAd,zAe,zAf,zAg,zAh,zAi,zAj,zAk,zAl,zAm,zAn,zAo,zAp,zAq,zAr,zAs,zAt,zAu,zAv,zAw,zAx,zAy,zAz,zA0,zA1,zA2,zA3,zA4,zA5,zA6,zA7,zA8,zA9,zBa,zBb,zBc,zBd,zBe,zBf,zBg,zBh,zBi,zBj,zBk,zBl,zBm,zBn,zBo,zBp,zBq,zBr,zBs,zBt,zBu,zBv,zBw,zBx,zBy,zBz,zB0,zB1,zB2,zB3,zB4,zB5,zB6,zB7,zB8,zB9,zCa,zCb,R.bind,OV.val,rd,stl,esc,escs,rds,isTy,truT_n,truT_b,truT_i,truT_l,truT_t,truT_s,truT_d,zCc,zCd,zCe,zCf,zCg,zCh,zCi,zCj,zCk,zCl,zCm,zCn,zCo,zCp,zCq,zCr,zCs,zCt,zCu,bop,blt,zCv,zCw,zCx,zCy,zCz,zC0,zC1,zC2,zC3,R.of,outsE,retR,putR,zC4,zC5,zC6,zC7,zC8,setVs,bindTg,lend,giveBack,ownL,putL,setAt,slcD,revD,asInt,List.replicate,i6,i7,i8], ?_⟩
        refine zDf (e1 := [.sh TD, .sh (.int n), .sh (.int s), .ow (.l FD), .sh LD, .ow (.l RD), .sh W, .sh (.int e), .sh (.int t), .sh W]) (by simp [Def.fn,mkF,runF,startE,zAa,zAb,zAc,zAd,zAe,zAf,zAg,zAh,zAi,zAj,zAk,zAl,zAm,zAn,zAo,zAp,zAq,zAr,zAs,zAt,zAu,zAv,zAw,zAx,zAy,zAz,zA0,zA1,zA2,zA3,zA4,zA5,zA6,zA7,zA8,zA9,zBa,zBb,zBc,zBd,zBe,zBf,zBg,zBh,zBi,zBj,zBk,zBl,zBm,zBn,zBo,zBp,zBq,zBr,zBs,zBt,zBu,zBv,zBw,zBx,zBy,zBz,zB0,zB1,zB2,zB3,zB4,zB5,zB6,zB7,zB8,zB9,zCa,zCb,R.bind,OV.val,rd,stl,esc,escs,rds,isTy,truT_n,truT_b,truT_i,truT_l,truT_t,truT_s,truT_d,zCc,zCd,zCe,zCf,zCg,zCh,zCi,zCj,zCk,zCl,zCm,zCn,zCo,zCp,zCq,zCr,zCs,zCt,zCu,bop,blt,zCv,zCw,zCx,zCy,zCz,zC0,zC1,zC2,zC3,R.of,outsE,retR,putR,zC4,zC5,zC6,zC7,zC8,setVs,bindTg,lend,giveBack,ownL,putL,setAt,slcD,revD,asInt,List.replicate,i9]) ?_
        refine zDh (e1 := [.sh TD, .sh (.int n), .sh (.int s), .ow (.l FD), .sh LD, .ow (.l RD), .sh W, .sh (.int e), .sh (.int t), .sh W]) (by simp [Def.fn,mkF,runF,startE,zAa,zAb,zAc,zAd,zAe,zAf,zAg,zAh,zAi,zAj,zAk,zAl,zAm,zAn,zAo,zAp,zAq,zAr,zAs,zAt,zAu,zAv,zAw,zAx,zAy,zAz,zA0,zA1,zA2,zA3,zA4,zA5,zA6,zA7,zA8,zA9,zBa,zBb,zBc,zBd,zBe,zBf,zBg,zBh,zBi,zBj,zBk,zBl,zBm,zBn,zBo,zBp,zBq,zBr,zBs,zBt,zBu,zBv,zBw,zBx,zBy,zBz,zB0,zB1,zB2,zB3,zB4,zB5,zB6,zB7,zB8,zB9,zCa,zCb,R.bind,OV.val,rd,stl,esc,escs,rds,isTy,truT_n,truT_b,truT_i,truT_l,truT_t,truT_s,truT_d,zCc,zCd,zCe,zCf,zCg,zCh,zCi,zCj,zCk,zCl,zCm,zCn,zCo,zCp,zCq,zCr,zCs,zCt,zCu,bop,blt,zCv,zCw,zCx,zCy,zCz,zC0,zC1,zC2,zC3,R.of,outsE,retR,putR,zC4,zC5,zC6,zC7,zC8,setVs,bindTg,lend,giveBack,ownL,putL,setAt,slcD,revD,asInt,List.replicate,sn]) (zDg ?_)
        refine zDf (e1 := [.sh TD, .sh (.int n), .sh (.int s), .ow (.l FD), .sh LD, .ow (.l (RD ++ [.tuple [W, .int e, .int (s * t + n)]])), .sh W, .sh (.int e), .sh (.int t), .sh W]) (by simp [Def.fn,mkF,runF,startE,zAa,zAb,zAc,zAd,zAe,zAf,zAg,zAh,zAi,zAj,zAk,zAl,zAm,zAn,zAo,zAp,zAq,zAr,zAs,zAt,zAu,zAv,zAw,zAx,zAy,zAz,zA0,zA1,zA2,zA3,zA4,zA5,zA6,zA7,zA8,zA9,zBa,zBb,zBc,zBd,zBe,zBf,zBg,zBh,zBi,zBj,zBk,zBl,zBm,zBn,zBo,zBp,zBq,zBr,zBs,zBt,zBu,zBv,zBw,zBx,zBy,zBz,zB0,zB1,zB2,zB3,zB4,zB5,zB6,zB7,zB8,zB9,zCa,zCb,R.bind,OV.val,rd,stl,esc,escs,rds,isTy,truT_n,truT_b,truT_i,truT_l,truT_t,truT_s,truT_d,zCc,zCd,zCe,zCf,zCg,zCh,zCi,zCj,zCk,zCl,zCm,zCn,zCo,zCp,zCq,zCr,zCs,zCt,zCu,bop,blt,zCv,zCw,zCx,zCy,zCz,zC0,zC1,zC2,zC3,R.of,outsE,retR,putR,zC4,zC5,zC6,zC7,zC8,setVs,bindTg,lend,giveBack,ownL,putL,setAt,slcD,revD,asInt,List.replicate,line,mth,hp2,hmul']) (zDg ?_)
        simp [zDc,zDd,zDe,zC9,zDa,zDb]
    · clear i4 i5 i6 i7 i8 i9
      rintro _ ⟨_, rfl, _, rfl, _, rfl, _, rfl, _, rfl, _, rfl, y6, _, rfl, i6, y7, _, rfl, i7, y8, _, rfl, i8, y9, _, rfl, i9, rfl⟩
      have so := sorted_stL (L.map (nmS n s))
      rw [show nmR n s L = .list (((L.map (nmS n s)).mergeSort lexQ).map stD) from rfl]
      generalize ((L.map (nmS n s)).mergeSort lexQ).map stD = SO at so ⊢
      generalize (L.map (nmS n s)).map stD = RD at so ⊢
      refine zDf (e1 := [.sh TD, .sh (.int n), .sh (.int s), .ow (.l (FD ++ [.list SO])), .sh LD, .ow (.l RD), y6, y7, y8, y9]) (by simp [Def.fn,mkF,runF,startE,zAa,zAb,zAc,zAd,zAe,zAf,zAg,zAh,zAi,zAj,zAk,zAl,zAm,zAn,zAo,zAp,zAq,zAr,zAs,zAt,zAu,zAv,zAw,zAx,zAy,zAz,zA0,zA1,zA2,zA3,zA4,zA5,zA6,zA7,zA8,zA9,zBa,zBb,zBc,zBd,zBe,zBf,zBg,zBh,zBi,zBj,zBk,zBl,zBm,zBn,zBo,zBp,zBq,zBr,zBs,zBt,zBu,zBv,zBw,zBx,zBy,zBz,zB0,zB1,zB2,zB3,zB4,zB5,zB6,zB7,zB8,zB9,zCa,zCb,R.bind,OV.val,rd,stl,esc,escs,rds,isTy,truT_n,truT_b,truT_i,truT_l,truT_t,truT_s,truT_d,zCc,zCd,zCe,zCf,zCg,zCh,zCi,zCj,zCk,zCl,zCm,zCn,zCo,zCp,zCq,zCr,zCs,zCt,zCu,zCv,zCw,zCx,zCy,zCz,zC0,zC1,zC2,zC3,R.of,outsE,retR,putR,zC4,zC5,zC6,zC7,zC8,setVs,bindTg,lend,giveBack,ownL,putL,setAt,slcD,revD,asInt,List.replicate,so,line,mth,hpl]) (zDg ?_)
      simp [zDc,zDd,zDe,zC9,zDa,zDb,i6,i7,i8,i9]
  · rintro _ ⟨_, rfl, _, rfl, _, rfl, _, rfl, y4, _, rfl, i4, y5, _, rfl, i5, y6, _, rfl, i6, y7, _, rfl, i7, y8, _, rfl, i8, y9, _, rfl, i9, rfl⟩
    refine zDj (r := .s 3) (by simp [Def.fn,mkF,runF,startE,zAa,zAb,zAc,zAd,zAe,zAf,zAg,zAh,zAi,zAj,zAk,zAl,zAm,zAn,zAo,zAp,zAq,zAr,zAs,zAt,zAu,zAv,zAw,zAx,zAy,zAz,zA0,zA1,zA2,zA3,zA4,zA5,zA6,zA7,zA8,zA9,zBa,zBb,zBc,zBd,zBe,zBf,zBg,zBh,zBi,zBj,zBk,zBl,zBm,zBn,zBo,zBp,zBq,zBr,zBs,zBt,zBu,zBv,zBw,zBx,zBy,zBz,zB0,zB1,zB2,zB3,zB4,zB5,zB6,zB7,zB8,zB9,zCa,zCb,R.bind,OV.val,rd,stl,esc,escs,rds,isTy,truT_n,truT_b,truT_i,truT_l,truT_t,truT_s,truT_d,zCc,zCd,zCe,zCf,zCg,zCh,zCi,zCj,zCk,zCl,zCm,zCn,zCo,zCp,zCq,zCr,zCs,zCt,zCu,bop,blt,zCv,zCw,zCx,zCy,zCz,zC0,zC1,zC2,zC3,R.of,outsE,retR,putR,zC4,zC5,zC6,zC7,zC8,setVs,bindTg,lend,giveBack,ownL,putL,setAt,slcD,revD,asInt,List.replicate]; first | done | rfl | exact ⟨rfl, rfl⟩ | (constructor <;> rfl)) (by simp [Def.fn,mkF,runF,startE,zAa,zAb,zAc,zAd,zAe,zAf,zAg,zAh,zAi,zAj,zAk,zAl,zAm,zAn,zAo,zAp,zAq,zAr,zAs,zAt,zAu,zAv,zAw,zAx,zAy,zAz,zA0,zA1,zA2,zA3,zA4,zA5,zA6,zA7,zA8,zA9,zBa,zBb,zBc,zBd,zBe,zBf,zBg,zBh,zBi,zBj,zBk,zBl,zBm,zBn,zBo,zBp,zBq,zBr,zBs,zBt,zBu,zBv,zBw,zBx,zBy,zBz,zB0,zB1,zB2,zB3,zB4,zB5,zB6,zB7,zB8,zB9,zCa,zCb,R.bind,OV.val,rd,stl,esc,escs,rds,isTy,truT_n,truT_b,truT_i,truT_l,truT_t,truT_s,truT_d,zCc,zCd,zCe,zCf,zCg,zCh,zCi,zCj,zCk,zCl,zCm,zCn,zCo,zCp,zCq,zCr,zCs,zCt,zCu,bop,blt,zCv,zCw,zCx,zCy,zCz,zC0,zC1,zC2,zC3,R.of,outsE,retR,putR,zC4,zC5,zC6,zC7,zC8,setVs,bindTg,lend,giveBack,ownL,putL,setAt,slcD,revD,asInt,List.replicate]; first | done | rfl | exact ⟨rfl, rfl⟩ | (constructor <;> rfl)) ?_
    exact ⟨[], rfl, rfl, rfl⟩
/-! ### the law -/
def ph (b : Bool) (n : Int) : Stp → Stp := if b = true then fun s => (s.1, s.2.1, s.2.2 + n) else fun s => (!s.1, s.2.1, 0 - s.2.2)
theorem ph_sy (b : Bool) (n : Int) (ss : List Stp) : Sy (ph b n) ss := by
  cases b
  · exact sy_mir ss
  · exact sy_late n ss
def sgn (b : Bool) : Int := if b = true then 1 else -1
def shf (b : Bool) (n : Int) : Int := if b = true then n else 0
theorem nm_ph (b : Bool) (n : Int) : nmS (shf b n) (sgn b) = ph b n := by
  funext s
  cases b
  · show (_, _, _) = (_, _, _)
    simp [nmS,shf,sgn,ph]
  · show (_, _, _) = (_, _, _)
    simp [nmS,shf,sgn,ph]
def lsts (ss : List Stp) : List (List Stp) := (List.range (tops ss).toNat).map fun (l : Nat) => lay ss (l : Int)
theorem layD_lsts (ss : List Stp) : layD ss = .tuple ((lsts ss).map stsD) := by simp [layD,lsts,List.map_map,Function.comp_def]
theorem lay_len (ss : List Stp) (l : Int) : (lay ss l).length ≤ ss.length := by
  unfold lay
  rw [List.length_mergeSort]
  unfold layer
  rw [List.length_map]
  have := List.length_filter_le (fun p : Stp × Int => decide (p.2 = l)) (lvF ss)
  rwa [lvF_len] at this
theorem names_eq (b : Bool) (n : Int) (ss : List Stp) : (lsts ss).map (nmR (shf b n) (sgn b)) = (lsts (ss.map (ph b n))).map fun L => PyData.list ((L.mergeSort lexQ).map stD) := by
  have sy := ph_sy b n ss
  unfold lsts
  rw [tops_sy sy, List.map_map, List.map_map]
  apply List.map_congr_left
  intro l _
  show nmR _ _ _ = PyData.list _
  unfold nmR
  rw [nm_ph, srtQ_perm (lay_sy sy (l : Int))]
theorem sp_is_integer : Sp_isint2 (D_is_integer.fn C0) := isint2_ok C0 
theorem sp_is_event_time : Sp_evt (D_is_event_time_s.fn C1) := evt_ok C1 ⟨_, rfl, sp_is_integer⟩ rfl rfl
theorem sp_is_step : Sp_isstep (D_is_step.fn C2) := isstep_ok C2 ⟨_, rfl, sp_is_event_time⟩
theorem sp_are_steps : Sp_aresteps (D_are_steps.fn C3) := aresteps_ok C3 ⟨_, rfl, sp_is_step⟩ rfl
theorem sp_check_steps : Sp_csteps (D_check_steps.fn C4) := csteps_ok C4 ⟨_, rfl, sp_are_steps⟩
theorem sp_do_commute : Sp_do (D_do_commute.fn C5) := do_ok C5 
theorem sp_layers_in : Sp_lay (D_layers_in.fn C6) := lay_ok C6 ⟨_, rfl, sp_do_commute⟩
theorem sp_layers : Sp_lays (D_layers.fn C7) := layers_ok C7 ⟨_, rfl, sp_check_steps⟩ ⟨_, rfl, sp_layers_in⟩
theorem sp_is_stronger : Sp_strg (D_is_stronger.fn C8) := strg_ok C8 
theorem sp_makes_idle : Sp_mkidle (D_makes_idle.fn C9) := mkidle_ok C9 ⟨_, rfl, sp_is_stronger⟩ ⟨_, rfl, sp_do_commute⟩
theorem sp_why_idle : Sp_whyidle (D_why_idle.fn C10) := whyidle_ok C10 ⟨_, rfl, sp_makes_idle⟩
theorem sp_idle_steps : Sp_idles (D_idle_steps.fn C11) := idles_ok C11 ⟨_, rfl, sp_check_steps⟩ ⟨_, rfl, sp_why_idle⟩
theorem sp_first_idle : Sp_first (D_first_idle.fn C12) := first_ok C12 ⟨_, rfl, sp_why_idle⟩
theorem sp_reduction_of : Sp_redof (D_reduction_of.fn C13) := redof_ok C13 ⟨_, rfl, sp_first_idle⟩
theorem sp_remaining_of : Sp_remof (D_remaining_of.fn C14) := remof_ok C14 ⟨_, rfl, sp_reduction_of⟩
theorem sp_remaining : Sp_rem (D_remaining.fn C15) := rem_ok C15 ⟨_, rfl, sp_check_steps⟩ ⟨_, rfl, sp_remaining_of⟩
theorem sp_reduction : Sp_redct (D_reduction.fn C16) := redct_ok C16 ⟨_, rfl, sp_check_steps⟩ ⟨_, rfl, sp_reduction_of⟩
theorem sp_law_stream : Sp_stream (D_law_stream.fn C17) := stream_ok C17 
theorem sp_law_next : Sp_next (D_law_next.fn C18) := next_ok C18 
theorem sp_law_some_steps : Sp_lsome3 (D_law_some_steps.fn C22) := lsome3_ok C22 ⟨_, rfl, sp_law_next⟩
theorem sp_law_names : Sp_lnames (D_law_names.fn C28) := lnames_ok C28 
theorem hp_layers : Has C29 "layers" Sp_lays := ⟨_, rfl, sp_layers⟩
theorem hp_idle_steps : Has C29 "idle_steps" Sp_idles := ⟨_, rfl, sp_idle_steps⟩
theorem hp_remaining : Has C29 "remaining" Sp_rem := ⟨_, rfl, sp_remaining⟩
theorem hp_reduction : Has C29 "reduction" Sp_redct := ⟨_, rfl, sp_reduction⟩
theorem hp_law_stream : Has C29 "_law_stream" Sp_stream := ⟨_, rfl, sp_law_stream⟩
theorem hp_law_next : Has C29 "_law_next" Sp_next := ⟨_, rfl, sp_law_next⟩
theorem hp_law_some_steps : Has C29 "_law_some_steps" Sp_lsome3 := ⟨_, rfl, sp_law_some_steps⟩
theorem hp_law_names : Has C29 "_law_names" Sp_lnames := ⟨_, rfl, sp_law_names⟩
theorem law_true : ∀ ns : List Int, ns.length ≤ 63 → (D_law.fn C29).run [.dict [(.none, .list (ns.map PyData.int))]] = .ok (.v (.bool true)) [] := by
  intro ns _
  refine run_eq rfl ?_
  obtain ⟨F1, g1, o1, r1⟩ := hp_law_stream
  obtain ⟨F2, g2, o2, r2⟩ := hp_law_some_steps
  obtain ⟨F3, g3, o3, r3⟩ := hp_law_next
  obtain ⟨F4, g4, o4, r4⟩ := hp_idle_steps
  obtain ⟨F5, g5, o5, r5⟩ := hp_reduction
  obtain ⟨F6, g6, o6, r6⟩ := hp_law_names
  obtain ⟨F7, g7, o7, r7⟩ := hp_layers
  obtain ⟨F8, g8, o8, r8⟩ := hp_remaining
  simp only [D_law]
  obtain ⟨st0, e1, k0⟩ := r1 ns
  generalize PyData.dict [(.none, .list (ns.map PyData.int))] = S at e1
  refine zDf (by simp [Def.fn,mkF,runF,startE,zAa,zAb,zAc,zAd,zAe,zAf,zAg,zAh,zAi,zAj,zAk,zAl,zAm,zAn,zAo,zAp,zAq,zAr,zAs,zAt,zAu,zAv,zAw,zAx,zAy,zAz,zA0,zA1,zA2,zA3,zA4,zA5,zA6,zA7,zA8,zA9,zBa,zBb,zBc,zBd,zBe,zBf,zBg,zBh,zBi,zBj,zBk,zBl,zBm,zBn,zBo,zBp,zBq,zBr,zBs,zBt,zBu,zBv,zBw,zBx,zBy,zBz,zB0,zB1,zB2,zB3,zB4,zB5,zB6,zB7,zB8,zB9,zCa,zCb,R.bind,OV.val,rd,stl,esc,escs,rds,isTy,truT_n,truT_b,truT_i,truT_l,truT_t,truT_s,truT_d,zCc,zCd,zCe,zCf,zCg,zCh,zCi,zCj,zCk,zCl,zCm,zCn,zCo,zCp,zCq,zCr,zCs,zCt,zCu,bop,blt,zCv,zCw,zCx,zCy,zCz,zC0,zC1,zC2,zC3,R.of,outsE,retR,putR,zC4,zC5,zC6,zC7,zC8,setVs,bindTg,lend,giveBack,ownL,putL,setAt,slcD,revD,asInt,List.replicate,g1,o1,e1]; first | done | rfl | exact ⟨rfl, rfl⟩ | (constructor <;> rfl)) ?_
  obtain ⟨sta, ss, e2, ka, hsl, hss⟩ := r2 st0 3 12 k0 (by omega) (by omega) (by omega) (by omega)
  obtain ⟨st1, n0, e3, k1, n1, n2⟩ := r3 sta 900 ka (by omega) (by omega)
  obtain ⟨n, hn⟩ : ∃ n, n = n0 - 450 := ⟨_, rfl⟩
  rw [show PyData.tuple (ss.map stD) = stsD ss from rfl] at e2
  have hl16 : ss.length ≤ 16 := by omega
  have hok : ∀ s ∈ ss, StpOk s := fun s h => (hss s h).1.1
  have pok : ∀ b, ∀ s ∈ ss.map (ph b n), StpOk s := fun b s h => by
    obtain ⟨a, ha, rfl⟩ := List.mem_map.mp h
    have q := hss a ha
    have q1 := q.1.1
    cases b
    · exact ⟨q1.e0, q1.e5, by show -500 ≤ 0 - a.2.2; omega, by show 0 - a.2.2 ≤ 500; omega⟩
    · exact ⟨q1.e0, q1.e5, by show -500 ≤ a.2.2 + n; omega, by show a.2.2 + n ≤ 500; omega⟩
  have w4 := r4 ss hl16 hok
  have w5 := r5 ss hl16 hok
  have w7 := r7 ss hl16 hok
  have w8 := r8 ss hl16 hok
  obtain ⟨SS, hSS⟩ : ∃ SS, SS = stsD ss := ⟨_, rfl⟩
  have sS : seqOf SS = some (ss.map stD) := by rw [hSS]; rfl
  rw [← hSS] at e2 w4 w5 w7 w8
  have x16 : (ss.map stD).length ≤ 16777216 := by rw [List.length_map]; omega
  refine zDf (e1 := [.sh S, .ow (.l sta), .sh SS, .no, .no, .no, .no, .no, .no, .no, .no, .no, .no]) (by simp [Def.fn,mkF,runF,startE,zAa,zAb,zAc,zAd,zAe,zAf,zAg,zAh,zAi,zAj,zAk,zAl,zAm,zAn,zAo,zAp,zAq,zAr,zAs,zAt,zAu,zAv,zAw,zAx,zAy,zAz,zA0,zA1,zA2,zA3,zA4,zA5,zA6,zA7,zA8,zA9,zBa,zBb,zBc,zBd,zBe,zBf,zBg,zBh,zBi,zBj,zBk,zBl,zBm,zBn,zBo,zBp,zBq,zBr,zBs,zBt,zBu,zBv,zBw,zBx,zBy,zBz,zB0,zB1,zB2,zB3,zB4,zB5,zB6,zB7,zB8,zB9,zCa,zCb,R.bind,OV.val,rd,stl,esc,escs,rds,isTy,truT_n,truT_b,truT_i,truT_l,truT_t,truT_s,truT_d,zCc,zCd,zCe,zCf,zCg,zCh,zCi,zCj,zCk,zCl,zCm,zCn,zCo,zCp,zCq,zCr,zCs,zCt,zCu,bop,blt,zCv,zCw,zCx,zCy,zCz,zC0,zC1,zC2,zC3,R.of,outsE,retR,putR,zC4,zC5,zC6,zC7,zC8,setVs,bindTg,lend,giveBack,ownL,putL,setAt,slcD,revD,asInt,List.replicate,g2,o2,e2]) ?_
  refine zDf (e1 := [.sh S, .ow (.l st1), .sh SS, .sh (.int n), .no, .no, .no, .no, .no, .no, .no, .no, .no]) (by simp [Def.fn,mkF,runF,startE,zAa,zAb,zAc,zAd,zAe,zAf,zAg,zAh,zAi,zAj,zAk,zAl,zAm,zAn,zAo,zAp,zAq,zAr,zAs,zAt,zAu,zAv,zAw,zAx,zAy,zAz,zA0,zA1,zA2,zA3,zA4,zA5,zA6,zA7,zA8,zA9,zBa,zBb,zBc,zBd,zBe,zBf,zBg,zBh,zBi,zBj,zBk,zBl,zBm,zBn,zBo,zBp,zBq,zBr,zBs,zBt,zBu,zBv,zBw,zBx,zBy,zBz,zB0,zB1,zB2,zB3,zB4,zB5,zB6,zB7,zB8,zB9,zCa,zCb,R.bind,OV.val,rd,stl,esc,escs,rds,isTy,truT_n,truT_b,truT_i,truT_l,truT_t,truT_s,truT_d,zCc,zCd,zCe,zCf,zCg,zCh,zCi,zCj,zCk,zCl,zCm,zCn,zCo,zCp,zCq,zCr,zCs,zCt,zCu,bop,blt,zCv,zCw,zCx,zCy,zCz,zC0,zC1,zC2,zC3,R.of,outsE,retR,putR,zC4,zC5,zC6,zC7,zC8,setVs,bindTg,lend,giveBack,ownL,putL,setAt,slcD,revD,asInt,List.replicate,g3,o3,e3,hn]) ?_
  have c1 := ev_lcgn (c := C29) (own := [9, 10, 11]) (tg := [9, 10, 11]) (tup := true) (it := (.seq (.var 2))) (e := (.tup (.cons (.var 9) (.cons (.var 10) (.cons (.bin .add (.var 11) (.var 3)) .nil))))) (ev := [.sh S, .ow (.l st1), .sh SS, .sh (.int n), .no, .no, .no, .no, .no, .no, .no, .no, .no]) (e1 := [.sh S, .ow (.l st1), .sh SS, .sh (.int n), .no, .no, .no, .no, .no, .no, .no, .no, .no]) (w0 := [.sh S, .ow (.l st1), .sh SS, .sh (.int n), .no, .no, .no, .no, .no, .no, .no, .no, .no]) (as := ss) (enc := stD) (g := fun s => stD (ph true n s)) (by simp [Def.fn,mkF,runF,startE,zAa,zAb,zAc,zAd,zAe,zAf,zAg,zAh,zAi,zAj,zAk,zAl,zAm,zAn,zAo,zAp,zAq,zAr,zAs,zAt,zAu,zAv,zAw,zAx,zAy,zAz,zA0,zA1,zA2,zA3,zA4,zA5,zA6,zA7,zA8,zA9,zBa,zBb,zBc,zBd,zBe,zBf,zBg,zBh,zBi,zBj,zBk,zBl,zBm,zBn,zBo,zBp,zBq,zBr,zBs,zBt,zBu,zBv,zBw,zBx,zBy,zBz,zB0,zB1,zB2,zB3,zB4,zB5,zB6,zB7,zB8,zB9,zCa,zCb,R.bind,OV.val,rd,stl,esc,escs,rds,isTy,truT_n,truT_b,truT_i,truT_l,truT_t,truT_s,truT_d,zCc,zCd,zCe,zCf,zCg,zCh,zCi,zCj,zCk,zCl,zCm,zCn,zCo,zCp,zCq,zCr,zCs,zCt,zCu,bop,blt,zCv,zCw,zCx,zCy,zCz,zC0,zC1,zC2,zC3,R.of,outsE,retR,putR,zC4,zC5,zC6,zC7,zC8,setVs,bindTg,lend,giveBack,ownL,putL,setAt,slcD,revD,asInt,List.replicate,sS]) rfl rfl (fun s hs => by
    have hin : stD s = .tuple [wrd s.1, .int s.2.1, .int s.2.2] := rfl
    have hres : stD (ph true n s) = .tuple [wrd s.1, .int s.2.1, .int (s.2.2 + n)] := rfl
    rw [hin, hres]
    generalize wrd s.1 = W
    exact ⟨[.sh S, .ow (.l st1), .sh SS, .sh (.int n), .no, .no, .no, .no, .no, .sh W, .sh (.int s.2.1), .sh (.int s.2.2), .no], by simp [Def.fn,mkF,runF,startE,zAa,zAb,zAc,zAd,zAe,zAf,zAg,zAh,zAi,zAj,zAk,zAl,zAm,zAn,zAo,zAp,zAq,zAr,zAs,zAt,zAu,zAv,zAw,zAx,zAy,zAz,zA0,zA1,zA2,zA3,zA4,zA5,zA6,zA7,zA8,zA9,zBa,zBb,zBc,zBd,zBe,zBf,zBg,zBh,zBi,zBj,zBk,zBl,zBm,zBn,zBo,zBp,zBq,zBr,zBs,zBt,zBu,zBv,zBw,zBx,zBy,zBz,zB0,zB1,zB2,zB3,zB4,zB5,zB6,zB7,zB8,zB9,zCa,zCb,R.bind,OV.val,rd,stl,esc,escs,rds,isTy,truT_n,truT_b,truT_i,truT_l,truT_t,truT_s,truT_d,zCc,zCd,zCe,zCf,zCg,zCh,zCi,zCj,zCk,zCl,zCm,zCn,zCo,zCp,zCq,zCr,zCs,zCt,zCu,bop,blt,zCv,zCw,zCx,zCy,zCz,zC0,zC1,zC2,zC3,R.of,outsE,retR,putR,zC4,zC5,zC6,zC7,zC8,setVs,bindTg,lend,giveBack,ownL,putL,setAt,slcD,revD,asInt,List.replicate], rfl, rfl, .v (.tuple [W, .int s.2.1, .int (s.2.2 + n)]), by simp [Def.fn,mkF,runF,startE,zAa,zAb,zAc,zAd,zAe,zAf,zAg,zAh,zAi,zAj,zAk,zAl,zAm,zAn,zAo,zAp,zAq,zAr,zAs,zAt,zAu,zAv,zAw,zAx,zAy,zAz,zA0,zA1,zA2,zA3,zA4,zA5,zA6,zA7,zA8,zA9,zBa,zBb,zBc,zBd,zBe,zBf,zBg,zBh,zBi,zBj,zBk,zBl,zBm,zBn,zBo,zBp,zBq,zBr,zBs,zBt,zBu,zBv,zBw,zBx,zBy,zBz,zB0,zB1,zB2,zB3,zB4,zB5,zB6,zB7,zB8,zB9,zCa,zCb,R.bind,OV.val,rd,stl,esc,escs,rds,isTy,truT_n,truT_b,truT_i,truT_l,truT_t,truT_s,truT_d,zCc,zCd,zCe,zCf,zCg,zCh,zCi,zCj,zCk,zCl,zCm,zCn,zCo,zCp,zCq,zCr,zCs,zCt,zCu,bop,blt,zCv,zCw,zCx,zCy,zCz,zC0,zC1,zC2,zC3,R.of,outsE,retR,putR,zC4,zC5,zC6,zC7,zC8,setVs,bindTg,lend,giveBack,ownL,putL,setAt,slcD,revD,asInt,List.replicate,line], by simp [Def.fn,mkF,runF,startE,zAa,zAb,zAc,zAd,zAe,zAf,zAg,zAh,zAi,zAj,zAk,zAl,zAm,zAn,zAo,zAp,zAq,zAr,zAs,zAt,zAu,zAv,zAw,zAx,zAy,zAz,zA0,zA1,zA2,zA3,zA4,zA5,zA6,zA7,zA8,zA9,zBa,zBb,zBc,zBd,zBe,zBf,zBg,zBh,zBi,zBj,zBk,zBl,zBm,zBn,zBo,zBp,zBq,zBr,zBs,zBt,zBu,zBv,zBw,zBx,zBy,zBz,zB0,zB1,zB2,zB3,zB4,zB5,zB6,zB7,zB8,zB9,zCa,zCb,R.bind,OV.val,rd,stl,esc,escs,rds,isTy,truT_n,truT_b,truT_i,truT_l,truT_t,truT_s,truT_d,zCc,zCd,zCe,zCf,zCg,zCh,zCi,zCj,zCk,zCl,zCm,zCn,zCo,zCp,zCq,zCr,zCs,zCt,zCu,bop,blt,zCv,zCw,zCx,zCy,zCz,zC0,zC1,zC2,zC3,R.of,outsE,retR,putR,zC4,zC5,zC6,zC7,zC8,setVs,bindTg,lend,giveBack,ownL,putL,setAt,slcD,revD,asInt,List.replicate]⟩)
  have hm1 : PyData.tuple (ss.map fun s => stD (ph true n s)) = stsD (ss.map (ph true n)) := by simp [stsD,List.map_map,Function.comp_def]
  have hm2 : PyData.tuple (ss.map fun s => stD (ph false n s)) = stsD (ss.map (ph false n)) := by simp [stsD,List.map_map,Function.comp_def]
  refine zDf (e1 := [.sh S, .ow (.l st1), .sh SS, .sh (.int n), .sh (stsD (ss.map (ph true n))), .no, .no, .no, .no, .no, .no, .no, .no]) (by simp [Def.fn,mkF,runF,startE,zAa,zAb,zAc,zAd,zAe,zAf,zAg,zAh,zAi,zAj,zAk,zAl,zAm,zAn,zAo,zAp,zAq,zAr,zAs,zAt,zAu,zAv,zAw,zAx,zAy,zAz,zA0,zA1,zA2,zA3,zA4,zA5,zA6,zA7,zA8,zA9,zBa,zBb,zBc,zBd,zBe,zBf,zBg,zBh,zBi,zBj,zBk,zBl,zBm,zBn,zBo,zBp,zBq,zBr,zBs,zBt,zBu,zBv,zBw,zBx,zBy,zBz,zB0,zB1,zB2,zB3,zB4,zB5,zB6,zB7,zB8,zB9,zCa,zCb,R.bind,OV.val,rd,stl,esc,escs,rds,isTy,truT_n,truT_b,truT_i,truT_l,truT_t,truT_s,truT_d,zCc,zCd,zCe,zCf,zCg,zCh,zCi,zCj,zCk,zCl,zCm,zCn,zCo,zCp,zCq,zCr,zCs,zCt,zCu,bop,blt,zCv,zCw,zCx,zCy,zCz,zC0,zC1,zC2,zC3,R.of,outsE,retR,putR,zC4,zC5,zC6,zC7,zC8,setVs,bindTg,lend,giveBack,ownL,putL,setAt,slcD,revD,asInt,List.replicate,c1,hm1,line]) ?_
  generalize hP1 : stsD (ss.map (ph true n)) = P1
  have c2 := ev_lcgn (c := C29) (own := [9, 10, 11]) (tg := [9, 10, 11]) (tup := true) (it := (.seq (.var 2))) (e := (.tup (.cons (.idx (.lst (.cons (.str "raise") (.cons (.str "lower") .nil))) (.blt .int (.cons (.cmp .eq (.var 9) (.str "raise")) .nil))) (.cons (.var 10) (.cons (.bin .sub (.int 0) (.var 11)) .nil))))) (ev := [.sh S, .ow (.l st1), .sh SS, .sh (.int n), .sh P1, .no, .no, .no, .no, .no, .no, .no, .no]) (e1 := [.sh S, .ow (.l st1), .sh SS, .sh (.int n), .sh P1, .no, .no, .no, .no, .no, .no, .no, .no]) (w0 := [.sh S, .ow (.l st1), .sh SS, .sh (.int n), .sh P1, .no, .no, .no, .no, .no, .no, .no, .no]) (as := ss) (enc := stD) (g := fun s => stD (ph false n s)) (by simp [Def.fn,mkF,runF,startE,zAa,zAb,zAc,zAd,zAe,zAf,zAg,zAh,zAi,zAj,zAk,zAl,zAm,zAn,zAo,zAp,zAq,zAr,zAs,zAt,zAu,zAv,zAw,zAx,zAy,zAz,zA0,zA1,zA2,zA3,zA4,zA5,zA6,zA7,zA8,zA9,zBa,zBb,zBc,zBd,zBe,zBf,zBg,zBh,zBi,zBj,zBk,zBl,zBm,zBn,zBo,zBp,zBq,zBr,zBs,zBt,zBu,zBv,zBw,zBx,zBy,zBz,zB0,zB1,zB2,zB3,zB4,zB5,zB6,zB7,zB8,zB9,zCa,zCb,R.bind,OV.val,rd,stl,esc,escs,rds,isTy,truT_n,truT_b,truT_i,truT_l,truT_t,truT_s,truT_d,zCc,zCd,zCe,zCf,zCg,zCh,zCi,zCj,zCk,zCl,zCm,zCn,zCo,zCp,zCq,zCr,zCs,zCt,zCu,bop,blt,zCv,zCw,zCx,zCy,zCz,zC0,zC1,zC2,zC3,R.of,outsE,retR,putR,zC4,zC5,zC6,zC7,zC8,setVs,bindTg,lend,giveBack,ownL,putL,setAt,slcD,revD,asInt,List.replicate,sS]) rfl rfl (fun s hs => by
    have hin : stD s = .tuple [wrd s.1, .int s.2.1, .int s.2.2] := rfl
    have hres : stD (ph false n s) = .tuple [wrd (!s.1), .int s.2.1, .int (0 - s.2.2)] := rfl
    have tk := turned_at s.1
    have wr := wrd_r s.1
    rw [hin, hres]
    generalize wrd s.1 = W at wr ⊢
    generalize wrd (!s.1) = W' at tk ⊢
    exact ⟨[.sh S, .ow (.l st1), .sh SS, .sh (.int n), .sh P1, .no, .no, .no, .no, .sh W, .sh (.int s.2.1), .sh (.int s.2.2), .no], by simp [Def.fn,mkF,runF,startE,zAa,zAb,zAc,zAd,zAe,zAf,zAg,zAh,zAi,zAj,zAk,zAl,zAm,zAn,zAo,zAp,zAq,zAr,zAs,zAt,zAu,zAv,zAw,zAx,zAy,zAz,zA0,zA1,zA2,zA3,zA4,zA5,zA6,zA7,zA8,zA9,zBa,zBb,zBc,zBd,zBe,zBf,zBg,zBh,zBi,zBj,zBk,zBl,zBm,zBn,zBo,zBp,zBq,zBr,zBs,zBt,zBu,zBv,zBw,zBx,zBy,zBz,zB0,zB1,zB2,zB3,zB4,zB5,zB6,zB7,zB8,zB9,zCa,zCb,R.bind,OV.val,rd,stl,esc,escs,rds,isTy,truT_n,truT_b,truT_i,truT_l,truT_t,truT_s,truT_d,zCc,zCd,zCe,zCf,zCg,zCh,zCi,zCj,zCk,zCl,zCm,zCn,zCo,zCp,zCq,zCr,zCs,zCt,zCu,bop,blt,zCv,zCw,zCx,zCy,zCz,zC0,zC1,zC2,zC3,R.of,outsE,retR,putR,zC4,zC5,zC6,zC7,zC8,setVs,bindTg,lend,giveBack,ownL,putL,setAt,slcD,revD,asInt,List.replicate], rfl, rfl, .v (.tuple [W', .int s.2.1, .int (0 - s.2.2)]), by simp [Def.fn,mkF,runF,startE,zAa,zAb,zAc,zAd,zAe,zAf,zAg,zAh,zAi,zAj,zAk,zAl,zAm,zAn,zAo,zAp,zAq,zAr,zAs,zAt,zAu,zAv,zAw,zAx,zAy,zAz,zA0,zA1,zA2,zA3,zA4,zA5,zA6,zA7,zA8,zA9,zBa,zBb,zBc,zBd,zBe,zBf,zBg,zBh,zBi,zBj,zBk,zBl,zBm,zBn,zBo,zBp,zBq,zBr,zBs,zBt,zBu,zBv,zBw,zBx,zBy,zBz,zB0,zB1,zB2,zB3,zB4,zB5,zB6,zB7,zB8,zB9,zCa,zCb,R.bind,OV.val,rd,stl,esc,escs,rds,isTy,truT_n,truT_b,truT_i,truT_l,truT_t,truT_s,truT_d,zCc,zCd,zCe,zCf,zCg,zCh,zCi,zCj,zCk,zCl,zCm,zCn,zCo,zCp,zCq,zCr,zCs,zCt,zCu,bop,blt,zCv,zCw,zCx,zCy,zCz,zC0,zC1,zC2,zC3,R.of,outsE,retR,putR,zC4,zC5,zC6,zC7,zC8,setVs,bindTg,lend,giveBack,ownL,putL,setAt,slcD,revD,asInt,List.replicate,line,wr,tk], by simp [Def.fn,mkF,runF,startE,zAa,zAb,zAc,zAd,zAe,zAf,zAg,zAh,zAi,zAj,zAk,zAl,zAm,zAn,zAo,zAp,zAq,zAr,zAs,zAt,zAu,zAv,zAw,zAx,zAy,zAz,zA0,zA1,zA2,zA3,zA4,zA5,zA6,zA7,zA8,zA9,zBa,zBb,zBc,zBd,zBe,zBf,zBg,zBh,zBi,zBj,zBk,zBl,zBm,zBn,zBo,zBp,zBq,zBr,zBs,zBt,zBu,zBv,zBw,zBx,zBy,zBz,zB0,zB1,zB2,zB3,zB4,zB5,zB6,zB7,zB8,zB9,zCa,zCb,R.bind,OV.val,rd,stl,esc,escs,rds,isTy,truT_n,truT_b,truT_i,truT_l,truT_t,truT_s,truT_d,zCc,zCd,zCe,zCf,zCg,zCh,zCi,zCj,zCk,zCl,zCm,zCn,zCo,zCp,zCq,zCr,zCs,zCt,zCu,bop,blt,zCv,zCw,zCx,zCy,zCz,zC0,zC1,zC2,zC3,R.of,outsE,retR,putR,zC4,zC5,zC6,zC7,zC8,setVs,bindTg,lend,giveBack,ownL,putL,setAt,slcD,revD,asInt,List.replicate]⟩)
  refine zDf (e1 := [.sh S, .ow (.l st1), .sh SS, .sh (.int n), .sh P1, .sh (stsD (ss.map (ph false n))), .no, .no, .no, .no, .no, .no, .no]) (by simp [Def.fn,mkF,runF,startE,zAa,zAb,zAc,zAd,zAe,zAf,zAg,zAh,zAi,zAj,zAk,zAl,zAm,zAn,zAo,zAp,zAq,zAr,zAs,zAt,zAu,zAv,zAw,zAx,zAy,zAz,zA0,zA1,zA2,zA3,zA4,zA5,zA6,zA7,zA8,zA9,zBa,zBb,zBc,zBd,zBe,zBf,zBg,zBh,zBi,zBj,zBk,zBl,zBm,zBn,zBo,zBp,zBq,zBr,zBs,zBt,zBu,zBv,zBw,zBx,zBy,zBz,zB0,zB1,zB2,zB3,zB4,zB5,zB6,zB7,zB8,zB9,zCa,zCb,R.bind,OV.val,rd,stl,esc,escs,rds,isTy,truT_n,truT_b,truT_i,truT_l,truT_t,truT_s,truT_d,zCc,zCd,zCe,zCf,zCg,zCh,zCi,zCj,zCk,zCl,zCm,zCn,zCo,zCp,zCq,zCr,zCs,zCt,zCu,bop,blt,zCv,zCw,zCx,zCy,zCz,zC0,zC1,zC2,zC3,R.of,outsE,retR,putR,zC4,zC5,zC6,zC7,zC8,setVs,bindTg,lend,giveBack,ownL,putL,setAt,slcD,revD,asInt,List.replicate,c2,hm2,line]) ?_
  generalize hP2 : stsD (ss.map (ph false n)) = P2
  refine wp_for (as := [true, false]) (enc := fun b => .tuple [stsD (ss.map (ph b n)), .int (sgn b), .int (shf b n)]) (fun pre ev => Fits [some (.sh S), some (.ow (.l st1)), some (.sh SS), some (.sh (.int n)), some (.sh P1), some (.sh P2), none, none, none, some .no, some .no, some .no, some .no] ev)
    (by simp [Def.fn,mkF,runF,startE,zAa,zAb,zAc,zAd,zAe,zAf,zAg,zAh,zAi,zAj,zAk,zAl,zAm,zAn,zAo,zAp,zAq,zAr,zAs,zAt,zAu,zAv,zAw,zAx,zAy,zAz,zA0,zA1,zA2,zA3,zA4,zA5,zA6,zA7,zA8,zA9,zBa,zBb,zBc,zBd,zBe,zBf,zBg,zBh,zBi,zBj,zBk,zBl,zBm,zBn,zBo,zBp,zBq,zBr,zBs,zBt,zBu,zBv,zBw,zBx,zBy,zBz,zB0,zB1,zB2,zB3,zB4,zB5,zB6,zB7,zB8,zB9,zCa,zCb,R.bind,OV.val,rd,stl,esc,escs,rds,isTy,truT_n,truT_b,truT_i,truT_l,truT_t,truT_s,truT_d,zCc,zCd,zCe,zCf,zCg,zCh,zCi,zCj,zCk,zCl,zCm,zCn,zCo,zCp,zCq,zCr,zCs,zCt,zCu,bop,blt,zCv,zCw,zCx,zCy,zCz,zC0,zC1,zC2,zC3,R.of,outsE,retR,putR,zC4,zC5,zC6,zC7,zC8,setVs,bindTg,lend,giveBack,ownL,putL,setAt,slcD,revD,asInt,List.replicate,line,seqOf,hP1,hP2,sgn,shf]; first | done | rfl | exact ⟨rfl, rfl⟩ | (constructor <;> rfl)) (by simp [zDc,zDd,zDe,zC9,zDa,zDb]) ?_ ?_
  · rintro pre b suf has _ ⟨_, rfl, _, rfl, _, rfl, _, rfl, _, rfl, _, rfl, y6, _, rfl, i6, y7, _, rfl, i7, y8, _, rfl, i8, _, rfl, _, rfl, _, rfl, _, rfl, rfl⟩
    have sy := ph_sy b n ss
    have v4 := r4 (ss.map (ph b n)) (by rw [List.length_map]; exact hl16) (pok b)
    have v5 := r5 (ss.map (ph b n)) (by rw [List.length_map]; exact hl16) (pok b)
    have v7 := r7 (ss.map (ph b n)) (by rw [List.length_map]; exact hl16) (pok b)
    have v8 := r8 (ss.map (ph b n)) (by rw [List.length_map]; exact hl16) (pok b)
    rw [idleL_sy sy] at v4
    rw [red_sy sy] at v5
    rw [remL_sy sy] at v8
    have lr : lenOf (stsD (remL ss)) = some (remL ss).length := len_sq true _
    have lr2 : lenOf (stsD ((remL ss).map (ph b n))) = some (remL ss).length := by rw [show lenOf (stsD ((remL ss).map (ph b n))) = some ((remL ss).map (ph b n)).length from len_sq true _, List.length_map]
    have rl := remL_len ss
    have il : (idleL ss).length ≤ 1000 := by
      have := List.length_filter_le (fun i => (whyI ss i).isSome) (List.range ss.length)
      rw [List.length_range] at this
      unfold idleL
      omega
    have nI := ne_self (m := 12) (by omega) (gd_ints il 10)
    have nR := ne_self (m := 12) (by omega) (gd_pkR (show (red ss).1.length ≤ 1000 by have := red_len ss; omega) 9)
    have hLl : (lsts ss).length ≤ 1000 := by have := tops_le ss; have := tops_nn ss; unfold lsts; rw [List.length_map, List.length_range]; omega
    have hLL : ∀ L ∈ lsts ss, L.length ≤ 1000 := fun L hL => by
      obtain ⟨l, _, rfl⟩ := List.mem_map.mp hL
      have := lay_len ss (l : Int)
      omega
    have v6 := r6 (lsts ss) (shf b n) (sgn b) hLl hLL (by cases b <;> simp [sgn])
    have nm := names_eq b n ss
    have gN : gd 12 (.list ((lsts ss).map (nmR (shf b n) (sgn b)))) = true := by
      simp only [gd, Bool.and_eq_true, List.all_eq_true, decide_eq_true_eq, List.length_map]
      refine ⟨hLl, fun x hx => ?_⟩
      obtain ⟨L, hL, rfl⟩ := List.mem_map.mp hx
      exact gd_listst (by rw [List.length_mergeSort, List.length_map]; exact hLL L hL) 8
    have nN := ne_self (m := 12) (by omega) gN
    rw [nm] at nN
    rw [nm, ← layD_lsts] at v6
    rw [layD_lsts (ss.map (ph b n))] at v7
    have hZl : ∀ L ∈ lsts (ss.map (ph b n)), True := fun _ _ => trivial
    generalize hZ : lsts (ss.map (ph b n)) = Z at nN v6 v7
    generalize hPB : stsD (ss.map (ph b n)) = PB at v4 v5 v7 v8
    generalize stsD (remL ss) = RM at w8 lr
    generalize stsD ((remL ss).map (ph b n)) = RM' at v8 lr2
    generalize PyData.tuple ((idleL ss).map fun (i : Nat) => (.int (i : Int) : D)) = ID at w4 v4 nI
    generalize PyData.tuple ((red ss).1.map pkD) = RD at w5 v5 nR
    generalize layD ss = LD at w7 v6
    generalize hX : (Z.map fun L => PyData.list ((L.mergeSort lexQ).map stD)) = X at nN v6
    generalize sgn b = sb at v6 ⊢
    generalize shf b n = sh at v6 ⊢
    refine ⟨[.sh S, .ow (.l st1), .sh SS, .sh (.int n), .sh P1, .sh P2, .sh PB, .sh (.int sb), .sh (.int sh), .no, .no, .no, .no], by simp [Def.fn,mkF,runF,startE,zAa,zAb,zAc,zAd,zAe,zAf,zAg,zAh,zAi,zAj,zAk,zAl,zAm,zAn,zAo,zAp,zAq,zAr,zAs,zAt,zAu,zAv,zAw,zAx,zAy,zAz,zA0,zA1,zA2,zA3,zA4,zA5,zA6,zA7,zA8,zA9,zBa,zBb,zBc,zBd,zBe,zBf,zBg,zBh,zBi,zBj,zBk,zBl,zBm,zBn,zBo,zBp,zBq,zBr,zBs,zBt,zBu,zBv,zBw,zBx,zBy,zBz,zB0,zB1,zB2,zB3,zB4,zB5,zB6,zB7,zB8,zB9,zCa,zCb,R.bind,OV.val,rd,stl,esc,escs,rds,isTy,truT_n,truT_b,truT_i,truT_l,truT_t,truT_s,truT_d,zCc,zCd,zCe,zCf,zCg,zCh,zCi,zCj,zCk,zCl,zCm,zCn,zCo,zCp,zCq,zCr,zCs,zCt,zCu,bop,blt,zCv,zCw,zCx,zCy,zCz,zC0,zC1,zC2,zC3,R.of,outsE,retR,putR,zC4,zC5,zC6,zC7,zC8,setVs,bindTg,lend,giveBack,ownL,putL,setAt,slcD,revD,asInt,List.replicate,i6,i7,i8,hPB], ?_⟩
    refine zDh (e1 := [.sh S, .ow (.l st1), .sh SS, .sh (.int n), .sh P1, .sh P2, .sh PB, .sh (.int sb), .sh (.int sh), .no, .no, .no, .no]) (by simp [Def.fn,mkF,runF,startE,zAa,zAb,zAc,zAd,zAe,zAf,zAg,zAh,zAi,zAj,zAk,zAl,zAm,zAn,zAo,zAp,zAq,zAr,zAs,zAt,zAu,zAv,zAw,zAx,zAy,zAz,zA0,zA1,zA2,zA3,zA4,zA5,zA6,zA7,zA8,zA9,zBa,zBb,zBc,zBd,zBe,zBf,zBg,zBh,zBi,zBj,zBk,zBl,zBm,zBn,zBo,zBp,zBq,zBr,zBs,zBt,zBu,zBv,zBw,zBx,zBy,zBz,zB0,zB1,zB2,zB3,zB4,zB5,zB6,zB7,zB8,zB9,zCa,zCb,R.bind,OV.val,rd,stl,esc,escs,rds,isTy,truT_n,truT_b,truT_i,truT_l,truT_t,truT_s,truT_d,zCc,zCd,zCe,zCf,zCg,zCh,zCi,zCj,zCk,zCl,zCm,zCn,zCo,zCp,zCq,zCr,zCs,zCt,zCu,bop,blt,zCv,zCw,zCx,zCy,zCz,zC0,zC1,zC2,zC3,R.of,outsE,retR,putR,zC4,zC5,zC6,zC7,zC8,setVs,bindTg,lend,giveBack,ownL,putL,setAt,slcD,revD,asInt,List.replicate,g4,o4,w4,v4,nI,g5,o5,w5,v5,nR]) (zDg ?_)
    have c3 := ev_lcgn (c := C29) (own := [12]) (tg := [12]) (tup := false) (it := (.seq (.call "layers" (.cons (.var 6) .nil)))) (e := (.blt .sorted (.cons (.var 12) .nil))) (ev := [.sh S, .ow (.l st1), .sh SS, .sh (.int n), .sh P1, .sh P2, .sh PB, .sh (.int sb), .sh (.int sh), .no, .no, .no, .no]) (e1 := [.sh S, .ow (.l st1), .sh SS, .sh (.int n), .sh P1, .sh P2, .sh PB, .sh (.int sb), .sh (.int sh), .no, .no, .no, .no]) (w0 := [.sh S, .ow (.l st1), .sh SS, .sh (.int n), .sh P1, .sh P2, .sh PB, .sh (.int sb), .sh (.int sh), .no, .no, .no, .no]) (as := Z) (enc := stsD) (g := fun L => PyData.list ((L.mergeSort lexQ).map stD)) (by simp [Def.fn,mkF,runF,startE,zAa,zAb,zAc,zAd,zAe,zAf,zAg,zAh,zAi,zAj,zAk,zAl,zAm,zAn,zAo,zAp,zAq,zAr,zAs,zAt,zAu,zAv,zAw,zAx,zAy,zAz,zA0,zA1,zA2,zA3,zA4,zA5,zA6,zA7,zA8,zA9,zBa,zBb,zBc,zBd,zBe,zBf,zBg,zBh,zBi,zBj,zBk,zBl,zBm,zBn,zBo,zBp,zBq,zBr,zBs,zBt,zBu,zBv,zBw,zBx,zBy,zBz,zB0,zB1,zB2,zB3,zB4,zB5,zB6,zB7,zB8,zB9,zCa,zCb,R.bind,OV.val,rd,stl,esc,escs,rds,isTy,truT_n,truT_b,truT_i,truT_l,truT_t,truT_s,truT_d,zCc,zCd,zCe,zCf,zCg,zCh,zCi,zCj,zCk,zCl,zCm,zCn,zCo,zCp,zCq,zCr,zCs,zCt,zCu,bop,blt,zCv,zCw,zCx,zCy,zCz,zC0,zC1,zC2,zC3,R.of,outsE,retR,putR,zC4,zC5,zC6,zC7,zC8,setVs,bindTg,lend,giveBack,ownL,putL,setAt,slcD,revD,asInt,List.replicate,g7,o7,v7,seqOf]) rfl rfl (fun L hL => by
      have so := sorted_st L
      generalize (L.mergeSort lexQ).map stD = SO at so ⊢
      generalize stsD L = LD at so ⊢
      exact ⟨[.sh S, .ow (.l st1), .sh SS, .sh (.int n), .sh P1, .sh P2, .sh PB, .sh (.int sb), .sh (.int sh), .no, .no, .no, .sh LD], by simp [Def.fn,mkF,runF,startE,zAa,zAb,zAc,zAd,zAe,zAf,zAg,zAh,zAi,zAj,zAk,zAl,zAm,zAn,zAo,zAp,zAq,zAr,zAs,zAt,zAu,zAv,zAw,zAx,zAy,zAz,zA0,zA1,zA2,zA3,zA4,zA5,zA6,zA7,zA8,zA9,zBa,zBb,zBc,zBd,zBe,zBf,zBg,zBh,zBi,zBj,zBk,zBl,zBm,zBn,zBo,zBp,zBq,zBr,zBs,zBt,zBu,zBv,zBw,zBx,zBy,zBz,zB0,zB1,zB2,zB3,zB4,zB5,zB6,zB7,zB8,zB9,zCa,zCb,R.bind,OV.val,rd,stl,esc,escs,rds,isTy,truT_n,truT_b,truT_i,truT_l,truT_t,truT_s,truT_d,zCc,zCd,zCe,zCf,zCg,zCh,zCi,zCj,zCk,zCl,zCm,zCn,zCo,zCp,zCq,zCr,zCs,zCt,zCu,bop,blt,zCv,zCw,zCx,zCy,zCz,zC0,zC1,zC2,zC3,R.of,outsE,retR,putR,zC4,zC5,zC6,zC7,zC8,setVs,bindTg,lend,giveBack,ownL,putL,setAt,slcD,revD,asInt,List.replicate], rfl, rfl, .f (.l SO), by simp [Def.fn,mkF,runF,startE,zAa,zAb,zAc,zAd,zAe,zAf,zAg,zAh,zAi,zAj,zAk,zAl,zAm,zAn,zAo,zAp,zAq,zAr,zAs,zAt,zAu,zAv,zAw,zAx,zAy,zAz,zA0,zA1,zA2,zA3,zA4,zA5,zA6,zA7,zA8,zA9,zBa,zBb,zBc,zBd,zBe,zBf,zBg,zBh,zBi,zBj,zBk,zBl,zBm,zBn,zBo,zBp,zBq,zBr,zBs,zBt,zBu,zBv,zBw,zBx,zBy,zBz,zB0,zB1,zB2,zB3,zB4,zB5,zB6,zB7,zB8,zB9,zCa,zCb,R.bind,OV.val,rd,stl,esc,escs,rds,isTy,truT_n,truT_b,truT_i,truT_l,truT_t,truT_s,truT_d,zCc,zCd,zCe,zCf,zCg,zCh,zCi,zCj,zCk,zCl,zCm,zCn,zCo,zCp,zCq,zCr,zCs,zCt,zCu,zCv,zCw,zCx,zCy,zCz,zC0,zC1,zC2,zC3,R.of,outsE,retR,putR,zC4,zC5,zC6,zC7,zC8,setVs,bindTg,lend,giveBack,ownL,putL,setAt,slcD,revD,asInt,List.replicate,so], by simp [Def.fn,mkF,runF,startE,zAa,zAb,zAc,zAd,zAe,zAf,zAg,zAh,zAi,zAj,zAk,zAl,zAm,zAn,zAo,zAp,zAq,zAr,zAs,zAt,zAu,zAv,zAw,zAx,zAy,zAz,zA0,zA1,zA2,zA3,zA4,zA5,zA6,zA7,zA8,zA9,zBa,zBb,zBc,zBd,zBe,zBf,zBg,zBh,zBi,zBj,zBk,zBl,zBm,zBn,zBo,zBp,zBq,zBr,zBs,zBt,zBu,zBv,zBw,zBx,zBy,zBz,zB0,zB1,zB2,zB3,zB4,zB5,zB6,zB7,zB8,zB9,zCa,zCb,R.bind,OV.val,rd,stl,esc,escs,rds,isTy,truT_n,truT_b,truT_i,truT_l,truT_t,truT_s,truT_d,zCc,zCd,zCe,zCf,zCg,zCh,zCi,zCj,zCk,zCl,zCm,zCn,zCo,zCp,zCq,zCr,zCs,zCt,zCu,bop,blt,zCv,zCw,zCx,zCy,zCz,zC0,zC1,zC2,zC3,R.of,outsE,retR,putR,zC4,zC5,zC6,zC7,zC8,setVs,bindTg,lend,giveBack,ownL,putL,setAt,slcD,revD,asInt,List.replicate]⟩)
    rw [hX] at c3
    refine zDh (e1 := [.sh S, .ow (.l st1), .sh SS, .sh (.int n), .sh P1, .sh P2, .sh PB, .sh (.int sb), .sh (.int sh), .no, .no, .no, .no]) (by simp [Def.fn,mkF,runF,startE,zAa,zAb,zAc,zAd,zAe,zAf,zAg,zAh,zAi,zAj,zAk,zAl,zAm,zAn,zAo,zAp,zAq,zAr,zAs,zAt,zAu,zAv,zAw,zAx,zAy,zAz,zA0,zA1,zA2,zA3,zA4,zA5,zA6,zA7,zA8,zA9,zBa,zBb,zBc,zBd,zBe,zBf,zBg,zBh,zBi,zBj,zBk,zBl,zBm,zBn,zBo,zBp,zBq,zBr,zBs,zBt,zBu,zBv,zBw,zBx,zBy,zBz,zB0,zB1,zB2,zB3,zB4,zB5,zB6,zB7,zB8,zB9,zCa,zCb,R.bind,OV.val,rd,stl,esc,escs,rds,isTy,truT_n,truT_b,truT_i,truT_l,truT_t,truT_s,truT_d,zCc,zCd,zCe,zCf,zCg,zCh,zCi,zCj,zCk,zCl,zCm,zCn,zCo,zCp,zCq,zCr,zCs,zCt,zCu,bop,blt,zCv,zCw,zCx,zCy,zCz,zC0,zC1,zC2,zC3,R.of,outsE,retR,putR,zC4,zC5,zC6,zC7,zC8,setVs,bindTg,lend,giveBack,ownL,putL,setAt,slcD,revD,asInt,List.replicate,g7,o7,w7,g6,o6,v6,c3,nN]) (zDg ?_)
    refine zDh (e1 := [.sh S, .ow (.l st1), .sh SS, .sh (.int n), .sh P1, .sh P2, .sh PB, .sh (.int sb), .sh (.int sh), .no, .no, .no, .no]) (by simp [Def.fn,mkF,runF,startE,zAa,zAb,zAc,zAd,zAe,zAf,zAg,zAh,zAi,zAj,zAk,zAl,zAm,zAn,zAo,zAp,zAq,zAr,zAs,zAt,zAu,zAv,zAw,zAx,zAy,zAz,zA0,zA1,zA2,zA3,zA4,zA5,zA6,zA7,zA8,zA9,zBa,zBb,zBc,zBd,zBe,zBf,zBg,zBh,zBi,zBj,zBk,zBl,zBm,zBn,zBo,zBp,zBq,zBr,zBs,zBt,zBu,zBv,zBw,zBx,zBy,zBz,zB0,zB1,zB2,zB3,zB4,zB5,zB6,zB7,zB8,zB9,zCa,zCb,R.bind,OV.val,rd,stl,esc,escs,rds,isTy,truT_n,truT_b,truT_i,truT_l,truT_t,truT_s,truT_d,zCc,zCd,zCe,zCf,zCg,zCh,zCi,zCj,zCk,zCl,zCm,zCn,zCo,zCp,zCq,zCr,zCs,zCt,zCu,bop,blt,zCv,zCw,zCx,zCy,zCz,zC0,zC1,zC2,zC3,R.of,outsE,retR,putR,zC4,zC5,zC6,zC7,zC8,setVs,bindTg,lend,giveBack,ownL,putL,setAt,slcD,revD,asInt,List.replicate,g8,o8,w8,v8,lr,lr2,line]) (zDg (zDg ?_))
    simp [zDc,zDd,zDe,zC9,zDa,zDb]
  · rintro _ ⟨_, rfl, _, rfl, _, rfl, _, rfl, _, rfl, _, rfl, y6, _, rfl, i6, y7, _, rfl, i7, y8, _, rfl, i8, _, rfl, _, rfl, _, rfl, _, rfl, rfl⟩
    refine zDj (r := .v (.bool true)) (by simp [Def.fn,mkF,runF,startE,zAa,zAb,zAc,zAd,zAe,zAf,zAg,zAh,zAi,zAj,zAk,zAl,zAm,zAn,zAo,zAp,zAq,zAr,zAs,zAt,zAu,zAv,zAw,zAx,zAy,zAz,zA0,zA1,zA2,zA3,zA4,zA5,zA6,zA7,zA8,zA9,zBa,zBb,zBc,zBd,zBe,zBf,zBg,zBh,zBi,zBj,zBk,zBl,zBm,zBn,zBo,zBp,zBq,zBr,zBs,zBt,zBu,zBv,zBw,zBx,zBy,zBz,zB0,zB1,zB2,zB3,zB4,zB5,zB6,zB7,zB8,zB9,zCa,zCb,R.bind,OV.val,rd,stl,esc,escs,rds,isTy,truT_n,truT_b,truT_i,truT_l,truT_t,truT_s,truT_d,zCc,zCd,zCe,zCf,zCg,zCh,zCi,zCj,zCk,zCl,zCm,zCn,zCo,zCp,zCq,zCr,zCs,zCt,zCu,bop,blt,zCv,zCw,zCx,zCy,zCz,zC0,zC1,zC2,zC3,R.of,outsE,retR,putR,zC4,zC5,zC6,zC7,zC8,setVs,bindTg,lend,giveBack,ownL,putL,setAt,slcD,revD,asInt,List.replicate]; first | done | rfl | exact ⟨rfl, rfl⟩ | (constructor <;> rfl)) (by simp [Def.fn,mkF,runF,startE,zAa,zAb,zAc,zAd,zAe,zAf,zAg,zAh,zAi,zAj,zAk,zAl,zAm,zAn,zAo,zAp,zAq,zAr,zAs,zAt,zAu,zAv,zAw,zAx,zAy,zAz,zA0,zA1,zA2,zA3,zA4,zA5,zA6,zA7,zA8,zA9,zBa,zBb,zBc,zBd,zBe,zBf,zBg,zBh,zBi,zBj,zBk,zBl,zBm,zBn,zBo,zBp,zBq,zBr,zBs,zBt,zBu,zBv,zBw,zBx,zBy,zBz,zB0,zB1,zB2,zB3,zB4,zB5,zB6,zB7,zB8,zB9,zCa,zCb,R.bind,OV.val,rd,stl,esc,escs,rds,isTy,truT_n,truT_b,truT_i,truT_l,truT_t,truT_s,truT_d,zCc,zCd,zCe,zCf,zCg,zCh,zCi,zCj,zCk,zCl,zCm,zCn,zCo,zCp,zCq,zCr,zCs,zCt,zCu,bop,blt,zCv,zCw,zCx,zCy,zCz,zC0,zC1,zC2,zC3,R.of,outsE,retR,putR,zC4,zC5,zC6,zC7,zC8,setVs,bindTg,lend,giveBack,ownL,putL,setAt,slcD,revD,asInt,List.replicate]; first | done | rfl | exact ⟨rfl, rfl⟩ | (constructor <;> rfl)) ?_
    exact ⟨[], rfl, rfl, rfl⟩
end Bide

set_option autoImplicit false
set_option Elab.async false
set_option maxRecDepth 100000
set_option linter.all false
set_option maxHeartbeats 0
namespace Bide
open PySem PySem.Spec PyProof.Rows L2
open HdR
theorem chk0 : D_is_integer.chk [] (fun _ => []) s0 = true := by kernel_rfl
theorem chk1 : D_is_event_time_s.chk [] (fun _ => []) s1 = true := by kernel_rfl
theorem chk2 : D_is_step.chk [] (fun _ => []) s2 = true := by kernel_rfl
theorem chk3 : D_are_steps.chk [] (fun _ => []) s3 = true := by kernel_rfl
theorem chk4 : D_check_steps.chk [] (fun _ => []) s4 = true := by kernel_rfl
theorem chk5 : D_do_commute.chk [] (fun _ => []) s5 = true := by kernel_rfl
theorem chk6 : D_layers_in.chkL "layers_in.<locals>.<lambda>" [] (fun _ => []) s6 = true := by kernel_rfl
theorem chk7 : D_layers.chk [] (fun _ => []) s7 = true := by kernel_rfl
theorem chk8 : D_is_stronger.chk [] (fun _ => []) s8 = true := by kernel_rfl
theorem chk9 : D_makes_idle.chk [] (fun _ => []) s9 = true := by kernel_rfl
theorem chk10 : D_why_idle.chk [] (fun _ => []) s10 = true := by kernel_rfl
theorem chk11 : D_idle_steps.chk [] (fun _ => []) s11 = true := by kernel_rfl
theorem chk12 : D_first_idle.chk [] (fun _ => []) s12 = true := by kernel_rfl
theorem chk13 : D_reduction_of.chk [] (fun _ => []) s13 = true := by kernel_rfl
theorem chk14 : D_remaining_of.chk [] (fun _ => []) s14 = true := by kernel_rfl
theorem chk15 : D_remaining.chk [] (fun _ => []) s15 = true := by kernel_rfl
theorem chk16 : D_reduction.chk [] (fun _ => []) s16 = true := by kernel_rfl
theorem chk17 : D_law_stream.chk [] (fun _ => []) s17 = true := by kernel_rfl
theorem chk18 : D_law_next.chk [] (fun _ => []) s18 = true := by kernel_rfl
theorem chk19 : D_law_is_integer.chk [] (fun _ => []) s19 = true := by kernel_rfl
theorem chk20 : D_law_news.chk [] (fun _ => []) s20 = true := by kernel_rfl
theorem chk21 : D_law_steps.chk [] (fun _ => []) s21 = true := by kernel_rfl
theorem chk22 : D_law_some_steps.chk [] (fun _ => []) s22 = true := by kernel_rfl
theorem chk23 : D_law_commute.chk [] (fun _ => []) s23 = true := by kernel_rfl
theorem chk24 : D_law_idle_by.chk [] (fun _ => []) s24 = true := by kernel_rfl
theorem chk25 : D_law_told_reduction.chk [] (fun _ => []) s25 = true := by kernel_rfl
theorem chk26 : D_law_remaining.chk [] (fun _ => []) s26 = true := by kernel_rfl
theorem chk27 : D_law_layers.chk [] (fun _ => []) s27 = true := by kernel_rfl
theorem chk28 : D_law_names.chk [] (fun _ => []) s28 = true := by kernel_rfl
theorem chk29 : D_law.chk [] (fun _ => []) s29 = true := by kernel_rfl
theorem facts {P : Program} {w : World} {K : PySem.W.Frag} {h : Heap} {mg : Str → Option Value} {f : Addr} (X : K.In h) (G : h.Ns mainGlobals mg) (hfa : mg ("law" : Str) = some (.ref f)) (c0 : He.SaysX fa fn [] [("layers_in", none)] (tupsB constsT) w h K) :
    ∃ fd : FuncData, (∀ (s : Shared) (v : Value), BindsTo s fd ⟨[v], []⟩ [((sN "_law_script"), v)]) ∧ ∀ base : Heap, K.In base → base.Ns mainGlobals mg → LamX.TabB base mg (He.cT K ("layers_in", none)).1 (He.cT K ("layers_in", none)).2 → FnOk P w K mg base (L2.CX P w) 83 f fd [sN "_law_script"] (spOf K (caL "layers_in.<locals>.<lambda>" (He.cT K ("layers_in", none)).2 (fun _ => none)) (fun _ => []) (D_law.fn C29)) := by
  have c := c0.t.d
  have cT0 := c0.more
  have cT := cT0
  obtain ⟨fd0, F0⟩ := c.def_ 0 (d := K0) rfl
  have g0 := He.glo_ok X G (c.fact 0 (f := .glo "is_integer") rfl)
  obtain ⟨fd1, F1⟩ := c.def_ 1 (d := K1) rfl
  have g1 := He.glo_ok X G (c.fact 1 (f := .glo "is_event_time") rfl)
  obtain ⟨fd2, F2⟩ := c.def_ 2 (d := K2) rfl
  have g2 := He.glo_ok X G (c.fact 2 (f := .glo "is_step") rfl)
  obtain ⟨fd3, F3⟩ := c.def_ 3 (d := K3) rfl
  have g3 := He.glo_ok X G (c.fact 3 (f := .glo "are_steps") rfl)
  obtain ⟨fd4, F4⟩ := c.def_ 4 (d := K4) rfl
  have g4 := He.glo_ok X G (c.fact 4 (f := .glo "check_steps") rfl)
  obtain ⟨fd5, F5⟩ := c.def_ 5 (d := K5) rfl
  have g5 := He.glo_ok X G (c.fact 5 (f := .glo "do_commute") rfl)
  obtain ⟨fd6, F6⟩ := c.def_ 6 (d := K6) rfl
  have g6 := He.glo_ok X G (c.fact 6 (f := .glo "layers_in") rfl)
  obtain ⟨fd7, F7⟩ := c.def_ 7 (d := K7) rfl
  have g7 := He.glo_ok X G (c.fact 7 (f := .glo "layers") rfl)
  obtain ⟨fd8, F8⟩ := c.def_ 8 (d := K8) rfl
  have g8 := He.glo_ok X G (c.fact 8 (f := .glo "is_stronger") rfl)
  obtain ⟨fd9, F9⟩ := c.def_ 9 (d := K9) rfl
  have g9 := He.glo_ok X G (c.fact 9 (f := .glo "makes_idle") rfl)
  obtain ⟨fd10, F10⟩ := c.def_ 10 (d := K10) rfl
  have g10 := He.glo_ok X G (c.fact 10 (f := .glo "why_idle") rfl)
  obtain ⟨fd11, F11⟩ := c.def_ 11 (d := K11) rfl
  have g11 := He.glo_ok X G (c.fact 11 (f := .glo "idle_steps") rfl)
  obtain ⟨fd12, F12⟩ := c.def_ 12 (d := K12) rfl
  have g12 := He.glo_ok X G (c.fact 12 (f := .glo "first_idle") rfl)
  obtain ⟨fd13, F13⟩ := c.def_ 13 (d := K13) rfl
  have g13 := He.glo_ok X G (c.fact 13 (f := .glo "reduction_of") rfl)
  obtain ⟨fd14, F14⟩ := c.def_ 14 (d := K14) rfl
  have g14 := He.glo_ok X G (c.fact 14 (f := .glo "remaining_of") rfl)
  obtain ⟨fd15, F15⟩ := c.def_ 15 (d := K15) rfl
  have g15 := He.glo_ok X G (c.fact 15 (f := .glo "remaining") rfl)
  obtain ⟨fd16, F16⟩ := c.def_ 16 (d := K16) rfl
  have g16 := He.glo_ok X G (c.fact 16 (f := .glo "reduction") rfl)
  obtain ⟨fd17, F17⟩ := c.def_ 17 (d := K17) rfl
  have g17 := He.glo_ok X G (c.fact 17 (f := .glo "_law_stream") rfl)
  obtain ⟨fd18, F18⟩ := c.def_ 18 (d := K18) rfl
  have g18 := He.glo_ok X G (c.fact 18 (f := .glo "_law_next") rfl)
  obtain ⟨fd19, F19⟩ := c.def_ 19 (d := K19) rfl
  have g19 := He.glo_ok X G (c.fact 19 (f := .glo "_law_is_integer") rfl)
  obtain ⟨fd20, F20⟩ := c.def_ 20 (d := K20) rfl
  have g20 := He.glo_ok X G (c.fact 20 (f := .glo "_law_news") rfl)
  obtain ⟨fd21, F21⟩ := c.def_ 21 (d := K21) rfl
  have g21 := He.glo_ok X G (c.fact 21 (f := .glo "_law_steps") rfl)
  obtain ⟨fd22, F22⟩ := c.def_ 22 (d := K22) rfl
  have g22 := He.glo_ok X G (c.fact 22 (f := .glo "_law_some_steps") rfl)
  obtain ⟨fd23, F23⟩ := c.def_ 23 (d := K23) rfl
  have g23 := He.glo_ok X G (c.fact 23 (f := .glo "_law_commute") rfl)
  obtain ⟨fd24, F24⟩ := c.def_ 24 (d := K24) rfl
  have g24 := He.glo_ok X G (c.fact 24 (f := .glo "_law_idle_by") rfl)
  obtain ⟨fd25, F25⟩ := c.def_ 25 (d := K25) rfl
  have g25 := He.glo_ok X G (c.fact 25 (f := .glo "_law_told_reduction") rfl)
  obtain ⟨fd26, F26⟩ := c.def_ 26 (d := K26) rfl
  have g26 := He.glo_ok X G (c.fact 26 (f := .glo "_law_remaining") rfl)
  obtain ⟨fd27, F27⟩ := c.def_ 27 (d := K27) rfl
  have g27 := He.glo_ok X G (c.fact 27 (f := .glo "_law_layers") rfl)
  obtain ⟨fd28, F28⟩ := c.def_ 28 (d := K28) rfl
  have g28 := He.glo_ok X G (c.fact 28 (f := .glo "_law_names") rfl)
  obtain ⟨fd29, F29⟩ := c.def_ 29 (d := K29) rfl
  have g29 := He.glo_ok X G (c.fact 29 (f := .glo "law") rfl)
  have e := hfa.symm.trans g29
  cases e
  have bl := FunD.bindsA (ps := [sN "_law_script"]) F29 fun _ _ _ _ _ _ us hl => match us, hl with | [_], _ => rfl
  have hb : ∀ x ∈ bltNames, mg (sN x) = none := fun x hx => He.free_ok X G (c.facts (f := .free (sN x)) (by
    refine List.mem_append_left _ (List.mem_append_right _ ?_)
    exact List.mem_map.mpr ⟨x, hx, rfl⟩))
  have hi : ∀ p ∈ consts, ∃ t, mg (sN p.1) = some (.int p.2 t) := fun p hp => He.int_ok X G (c.facts (f := .int (sN p.1) p.2) (by
    refine List.mem_append_right _ ?_
    exact List.mem_map.mpr ⟨p, hp, rfl⟩))
  refine ⟨fd29, fun s v => bl s [v] rfl, fun base _ _ TB => ?_⟩
  have hW : WlOk ⟨P, w, K, mg, base, (caL "layers_in.<locals>.<lambda>" (He.cT K ("layers_in", none)).2 (fun _ => none)), (fun _ => []), []⟩ := ⟨hb, (fun X k _ _ _ _ _ _ _ _ n hn => by cases hn), (by rw [show clsOf _ = _ from clsOf_caL]; exact xc_none)⟩
  have h0 : FnsOk ⟨P, w, K, mg, base, (caL "layers_in.<locals>.<lambda>" (He.cT K ("layers_in", none)).2 (fun _ => none)), (fun _ => []), []⟩ 1 C0 ∧ GlsOk ⟨P, w, K, mg, base, (caL "layers_in.<locals>.<lambda>" (He.cT K ("layers_in", none)).2 (fun _ => none)), (fun _ => []), []⟩ C0 := ⟨fun _ _ e => (by cases e), gls_all (W := ⟨P, w, K, mg, base, (caL "layers_in.<locals>.<lambda>" (He.cT K ("layers_in", none)).2 (fun _ => none)), (fun _ => []), []⟩) X G hi cT⟩
  have h1 := step (d := D_is_integer) (st := s0) hW (by omega) h0.1 h0.2 F0 chk0 g0 (F0.bindsN fun _ _ _ _ _ _ us hl => match us, hl with | [_], _ => rfl)
  have h2 := step (d := D_is_event_time_s) (st := s1) hW (by omega) h1.1 h1.2 F1 chk1 g1 (F1.bindsN fun _ _ _ _ _ _ us hl => match us, hl with | [_, _], _ => rfl)
  have h3 := step (d := D_is_step) (st := s2) hW (by omega) h2.1 h2.2 F2 chk2 g2 (F2.bindsN fun _ _ _ _ _ _ us hl => match us, hl with | [_], _ => rfl)
  have h4 := step (d := D_are_steps) (st := s3) hW (by omega) h3.1 h3.2 F3 chk3 g3 (F3.bindsN fun _ _ _ _ _ _ us hl => match us, hl with | [_], _ => rfl)
  have h5 := step (d := D_check_steps) (st := s4) hW (by omega) h4.1 h4.2 F4 chk4 g4 (F4.bindsN fun _ _ _ _ _ _ us hl => match us, hl with | [_], _ => rfl)
  have h6 := step (d := D_do_commute) (st := s5) hW (by omega) h5.1 h5.2 F5 chk5 g5 (F5.bindsN fun _ _ _ _ _ _ us hl => match us, hl with | [_, _], _ => rfl)
  have h7 := stepL (d := D_layers_in) (st := s6) (x := "layers_in.<locals>.<lambda>") rfl hW (by omega) h6.1 h6.2 F6 chk6 g6 (F6.bindsN fun _ _ _ _ _ _ us hl => match us, hl with | [_], _ => rfl) (code_of F6) TB (caL_at (x := "layers_in.<locals>.<lambda>") (T := (He.cT K ("layers_in", none)).2) (ca := (fun _ => none))) (by decide +kernel) (caL_one (x := "layers_in.<locals>.<lambda>") (T := (He.cT K ("layers_in", none)).2) (ca := (fun _ => none)) (fun _ => rfl)) (by kernel_rfl)
  have h8 := step (d := D_layers) (st := s7) hW (by omega) h7.1 h7.2 F7 chk7 g7 (F7.bindsN fun _ _ _ _ _ _ us hl => match us, hl with | [_], _ => rfl)
  have h9 := step (d := D_is_stronger) (st := s8) hW (by omega) h8.1 h8.2 F8 chk8 g8 (F8.bindsN fun _ _ _ _ _ _ us hl => match us, hl with | [_, _], _ => rfl)
  have h10 := step (d := D_makes_idle) (st := s9) hW (by omega) h9.1 h9.2 F9 chk9 g9 (F9.bindsN fun _ _ _ _ _ _ us hl => match us, hl with | [_, _, _], _ => rfl)
  have h11 := step (d := D_why_idle) (st := s10) hW (by omega) h10.1 h10.2 F10 chk10 g10 (F10.bindsN fun _ _ _ _ _ _ us hl => match us, hl with | [_, _], _ => rfl)
  have h12 := step (d := D_idle_steps) (st := s11) hW (by omega) h11.1 h11.2 F11 chk11 g11 (F11.bindsN fun _ _ _ _ _ _ us hl => match us, hl with | [_], _ => rfl)
  have h13 := step (d := D_first_idle) (st := s12) hW (by omega) h12.1 h12.2 F12 chk12 g12 (F12.bindsN fun _ _ _ _ _ _ us hl => match us, hl with | [_], _ => rfl)
  have h14 := step (d := D_reduction_of) (st := s13) hW (by omega) h13.1 h13.2 F13 chk13 g13 (F13.bindsN fun _ _ _ _ _ _ us hl => match us, hl with | [_], _ => rfl)
  have h15 := step (d := D_remaining_of) (st := s14) hW (by omega) h14.1 h14.2 F14 chk14 g14 (F14.bindsN fun _ _ _ _ _ _ us hl => match us, hl with | [_], _ => rfl)
  have h16 := step (d := D_remaining) (st := s15) hW (by omega) h15.1 h15.2 F15 chk15 g15 (F15.bindsN fun _ _ _ _ _ _ us hl => match us, hl with | [_], _ => rfl)
  have h17 := step (d := D_reduction) (st := s16) hW (by omega) h16.1 h16.2 F16 chk16 g16 (F16.bindsN fun _ _ _ _ _ _ us hl => match us, hl with | [_], _ => rfl)
  have h18 := step (d := D_law_stream) (st := s17) hW (by omega) h17.1 h17.2 F17 chk17 g17 (F17.bindsN fun _ _ _ _ _ _ us hl => match us, hl with | [_], _ => rfl)
  have h19 := step (d := D_law_next) (st := s18) hW (by omega) h18.1 h18.2 F18 chk18 g18 (F18.bindsN fun _ _ _ _ _ _ us hl => match us, hl with | [_, _], _ => rfl)
  have h20 := step (d := D_law_is_integer) (st := s19) hW (by omega) h19.1 h19.2 F19 chk19 g19 (F19.bindsN fun _ _ _ _ _ _ us hl => match us, hl with | [_], _ => rfl)
  have h21 := step (d := D_law_news) (st := s20) hW (by omega) h20.1 h20.2 F20 chk20 g20 (F20.bindsN fun _ _ _ _ _ _ us hl => match us, hl with | [_, _, _], _ => rfl)
  have h22 := step (d := D_law_steps) (st := s21) hW (by omega) h21.1 h21.2 F21 chk21 g21 (F21.bindsN fun _ _ _ _ _ _ us hl => match us, hl with | [_], _ => rfl)
  have h23 := step (d := D_law_some_steps) (st := s22) hW (by omega) h22.1 h22.2 F22 chk22 g22 (F22.bindsN fun _ _ _ _ _ _ us hl => match us, hl with | [_, _, _], _ => rfl)
  have h24 := step (d := D_law_commute) (st := s23) hW (by omega) h23.1 h23.2 F23 chk23 g23 (F23.bindsN fun _ _ _ _ _ _ us hl => match us, hl with | [_, _], _ => rfl)
  have h25 := step (d := D_law_idle_by) (st := s24) hW (by omega) h24.1 h24.2 F24 chk24 g24 (F24.bindsN fun _ _ _ _ _ _ us hl => match us, hl with | [_, _, _], _ => rfl)
  have h26 := step (d := D_law_told_reduction) (st := s25) hW (by omega) h25.1 h25.2 F25 chk25 g25 (F25.bindsN fun _ _ _ _ _ _ us hl => match us, hl with | [_], _ => rfl)
  have h27 := step (d := D_law_remaining) (st := s26) hW (by omega) h26.1 h26.2 F26 chk26 g26 (F26.bindsN fun _ _ _ _ _ _ us hl => match us, hl with | [_], _ => rfl)
  have h28 := step (d := D_law_layers) (st := s27) hW (by omega) h27.1 h27.2 F27 chk27 g27 (F27.bindsN fun _ _ _ _ _ _ us hl => match us, hl with | [_], _ => rfl)
  have h29 := step (d := D_law_names) (st := s28) hW (by omega) h28.1 h28.2 F28 chk28 g28 (F28.bindsN fun _ _ _ _ _ _ us hl => match us, hl with | [_, _, _], _ => rfl)
  exact def_ok (d := D_law) (st := s29) hW (by omega) h29.1 h29.2 F29 chk29

end Bide
open PySem PySem.W PySem.Calls PyProof.Rows
theorem PySem.Challenge.cw_allbide_k46_whole_shifted_and_mirrored_holds : PySem.Challenge.rw_allbide_k46_whole_shifted_and_mirrored.Holds := by
  w_on; o_law
  refine HandSHeadRun.head_any (r := OpenLaw.row PySem.Challenge.rw_allbide_k46_whole_shifted_and_mirrored) (q := view (OpenLaw.row PySem.Challenge.rw_allbide_k46_whole_shifted_and_mirrored).prog [39]) (H := Bide.HdR.hk) (ob := Bide.HdR.ob) (M := 6000) (loose := Bide.HdR.loose) (d := HandSHeadRun.topDef (OpenLaw.row PySem.Challenge.rw_allbide_k46_whole_shifted_and_mirrored).prog 39) (kwd := []) Bide.HdR.ob_eq
    (by kernel_rfl) (fun s => by kernel_rfl) Bide.HdR.run (by kernel_rfl) (by kernel_rfl) (by kernel_rfl) (by rfl) (by first | assumption | decide +kernel) (by decide +kernel) ⟨rfl, rfl, rfl, rfl, rfl, by decide +kernel⟩ ?hw ?hc
  case hw => w_witness2
  case hc =>
    refine LamX.walk_ofTsE (l := PySem.Challenge.rw_allbide_k46_whole_shifted_and_mirrored) (n := 63) (k := 83) (x := Bide.sN "_law_script") (CX := fun _ => L2.CX0) rfl (by decide) (by kernel_rfl) ⟨rfl, by decide, by decide⟩ ?F (fun _ _ _ _ _ z => z)
    intro w mg fa h Y G hmg0
    obtain ⟨K, KX, c⟩ := Y
    have hmg : mg ("law" : PySem.Str) = some (.ref fa) := by
      have e : (HandSHeadRun.topDef (OpenLaw.row PySem.Challenge.rw_allbide_k46_whole_shifted_and_mirrored).prog 39).name = ("law" : PySem.Str) := by kernel_rfl
      rw [← e]
      exact hmg0
    obtain ⟨fd, hb, hF⟩ := Bide.facts (P := (PySem.Challenge.rw_allbide_k46_whole_shifted_and_mirrored).prog) (w := w) KX G hmg c
    refine ⟨K, KX, fd, [He.cT K ("layers_in", none)], (fun vs H Q _ => Bide.spOf K (Bide.caL "layers_in.<locals>.<lambda>" (He.cT K ("layers_in", none)).2 (fun _ => none)) (fun _ => []) (Bide.D_law.fn Bide.C29) vs H Q L2.E0), ?_, ?_, ?_, hb, ?_, ?_⟩
    · intro p hp; cases List.mem_singleton.mp hp; exact c.empty _ (by simp)
    · intro p hp; cases List.mem_singleton.mp hp; exact c.out _ (by simp)
    · intro p hp; cases List.mem_singleton.mp hp; exact PySem.W.codeHd_of_K KX (c.hd _ (by simp))
    · intro H a ns hl _ hT hS; exact Bide.law_spT (by decide) rfl (fun _ => rfl) Bide.law_true H a ns hl (hT _ (by simp)) hS
    · intro base h1 h2 hT; exact Bide.fn_cx0 (hF base h1 h2 (hT _ (by simp)))

