import PyProof.Rows.All
import Wide.All
import OpenK.AllK
import Wide.FinOn
import KE.KStateDown
import HandS.Base
import HandS.Call
import HandS.List
import HandS.Comp
import HandS.Ends
import HandS.More
import HandS.HeadHook4
import HandS.HeadWalk
import KE.KExcSuper
import KE.KSuper
import HandS.ExcInit
import HandS.ExcField
import HandS.Nested
import HandS.Head0
import HandS.Head1
import HandS.Head2
import HandS.HeadEnd
import HandS.HeadHook1
import HandS.HeadHook2
import HandS.Words
import HandS.WordsExc
import HandS.Lambda
import HandS.Dict
import HandS.Exc
import KE.KDictKeyed
import HandS.Iter
import HandS.Flow
import HandS.Style
import PyProof.P3Statements
import PyProof.EqLayable
import HandS.TupAny
import HandS.TupMul
import HandS.Wide
import HandS.Deep
import HandS.NoneIn
import PyProof.P3In
import PyProof.Rows.TupTab
import HandS.DictEq
import KE.KEqDict
import HandS.Star
import HandS.Zip
import HandS.Conv
import KE.KDictWalk
import HandS.EndBits
import HandS.IsInst
import HandS.SortInts
import HandS.ReCall
import HandS.SetKeys
import HandS.DictComp
import KE.KDictCopyH
import PyProof.DictDisplay
import KE.SortData
import KE.DataMinMax
import KE.KDictSum
import KE.KDictPairs
import HandS.WordsDict
import PyProof.ReprRoads
import PyProof.CallFns
import HandS.ExcIs
import KE.KIsAll
import HandS.Defaults
import HandS.ExcValue
import KE.IntBitsLaws
import PySem.Challenge.RW_neverrunaway_k86_what_mills_and_days_ref
/-! text Vi1 -/
set_option Elab.async false
set_option linter.all false
set_option maxRecDepth 100000
/-! Vi, part 1: values as trees, the state, the result. -/
namespace Vi
open PySem

/-- a value as a tree; ref j: the j-th object of Vi's own heap; cls c: a class by its number; exc c v: an exception of it; ty n: a built-in class; obj a: the object at a, whatever it is -/
inductive D where
  | non | bl (b : Bool) | int (i : Int) | str (x : Str)
  | tup (xs : List D) | lst (xs : List D) | dct (ks vs : List D)
  | ref (j : Nat)
  | cls (c : Nat)
  | exc (c : Nat) (v : D)
  | ty (n : String)
  | obj (a : Addr)
  deriving Inhabited

mutual
def D.py : D → Option PyData
  | .non => some .none
  | .bl b => some (.bool b)
  | .int i => some (.int i)
  | .str x => some (.str x)
  | .tup xs => (D.pys xs).map .tuple
  | .lst xs => (D.pys xs).map .list
  | .dct _ _ => none
  | .ref _ => none
  | .cls _ => none
  | .exc _ _ => none
  | .ty _ => none
  | .obj _ => none
def D.pys : List D → Option (List PyData)
  | [] => some []
  | d :: ds => match d.py with
    | some p => (match D.pys ds with | some ps => some (p :: ps) | none => none)
    | none => none
end

/-- a slot: nothing | a value that others may hold | a list, a dict that this slot alone holds -/
inductive Sl where
  | e | s (d : D) | o (d : D)
/-- what an expression hands on: a value | a new list, dict that nobody holds | what the slot i holds -/
inductive O where
  | v (d : D) | w (d : D) | at (i : Nat)
structure St where
  σ : List Sl
  h : List D
inductive R (α : Type) where
  | ok (a : α) (s : St) | exc (c : Nat) (d : D) (s : St) | fail
abbrev M (α : Type) := St → R α
def ret {α : Type} (a : α) : M α := fun s => .ok a s
def bind {α β : Type} (m : M α) (k : α → M β) : M β := fun s => match m s with
  | .ok a s' => k a s'
  | .exc c d s' => .exc c d s'
  | .fail => .fail
def fail {α : Type} : M α := fun _ => .fail
def opt {α : Type} : Option α → M α
  | some a => ret a
  | none => fail
instance : Monad M where
  pure := ret
  bind := bind

/-- what stands behind an O, read -/
def rd : O → M D
  | .v d => ret d
  | .w d => ret d
  | .at i => fun s => match s.σ[i]? with
    | some (.s d) => .ok d s
    | some (.o d) => .ok d s
    | _ => .fail
/-- .. a heap's object by its content -/
def deref (d : D) : M D := match d with
  | .ref j => fun s => match s.h[j]? with
    | some d => .ok d s
    | none => .fail
  | d => ret d
def rdh (o : O) : M D := bind (rd o) deref
/-- .. handed on for good: a slot's own becomes a value that others may hold -/
def esc : O → M D
  | .v d => ret d
  | .w d => ret d
  | .at i => fun s => match s.σ[i]? with
    | some (.s d) => .ok d s
    | some (.o d) => .ok d { s with σ := s.σ.set i (.s d) }
    | _ => .fail
def escs : List O → M (List D)
  | [] => ret []
  | o :: os => bind (esc o) fun d => bind (escs os) fun ds => ret (d :: ds)
def rds : List O → M (List D)
  | [] => ret []
  | o :: os => bind (rd o) fun d => bind (rds os) fun ds => ret (d :: ds)
end Vi
/-! text Vh -/
set_option Elab.async false
set_option linter.all false
set_option maxRecDepth 100000
set_option maxHeartbeats 2000000
/-! Vh: what a law's head is asked. -/
namespace Vi
open PySem PySem.Spec PyProof.Rows L2 NdefX
/-- the names that must be built-in -/
def bltNames : List Str := ["len", "abs", "int", "max", "min", "sum", "all", "any", "sorted", "tuple", "list", "isinstance", "range", "zip", "enumerate", "bool", "str", "dict", "repr"]
def eqV (a b : Option (Option Value)) : Bool := decide (a = b)
def yes (a : Option Bool) : Bool := decide (a = some true)
def oexB (K : PySem.W.Frag) (C : Addr) : Bool := match K.lookup C with
  | some ⟨.type t, _, .cls cd, sl⟩ => (match cd.mro, sl.toList with
    | .ref C' :: bm, [_, _, _, _, some (.builtin n), _] => decide (t = "type") && decide (C' = C) && decide (n = "ValueError.__new__") && !cd.hasDel && cd.hasDict && PySem.HandSPX.refsVE bm
    | _, _ => false) && eqV (PySem.W.findIn K (.ref C) "__setattr__") (some (some (.builtin "object.__setattr__"))) && yes (PySem.W.subIn K (.ref C) (.type "BaseException")) && decide (PySem.W.typeIn K (.ref C) = some (.type "type")) && PySem.W.keepIn K (.ref C)
  | _ => false
def xcB (K : PySem.W.Frag) (C D fI : Addr) : Bool := oexB K C && eqV (PySem.W.findIn K (.ref C) "__init__") (some (some (.ref fI))) && decide (PySem.W.typeIn K (.ref fI) = some (.type "function")) && yes (PySem.W.mroIn K C (.ref D)) && eqV (PySem.W.ks_superIn K C D "__init__") (some (some (.builtin "ValueError.__init__"))) && yes (PySem.W.subIn K (.ref C) (.type "ValueError")) && eqV (PySem.W.findIn K (.ref C) "value") (some none)
def exccB (K : PySem.W.Frag) (D : Addr) : Bool := eqV (PySem.W.findIn K (.ref D) "__getattribute__") (some (some (.builtin "BaseException.__getattribute__"))) && eqV (PySem.W.findIn K (.ref D) "__getattr__") (some none) && yes (PySem.W.subIn K (.ref D) (.type "BaseException")) && PySem.W.hasDictIn K D &&
  eqV (PySem.W.findIn K (.ref D) "__class__") (some (some (.builtin "object.__class__"))) && eqV (PySem.W.specialIn K (.builtin "object.__class__") "__get__") (some (some (.builtin "getset_descriptor.__get__"))) && yes (PySem.W.takesIn K (.builtin "object.__class__")) && yes (PySem.W.mroIn K D (.type "object"))
def fileB (file : Str) : Option Value → Bool
  | some (.str f _) => file == f
  | _ => false
/-- the base class' __init__ -/
def iniB (K : PySem.W.Frag) (file : Str) (fI D : Addr) : Bool := match K.lookup fI with
  | some ⟨_, _, .func ⟨_, qual, ⟨[], [⟨a1, _, _⟩, ⟨a2, _, _⟩], none, [], [], none, []⟩, .stmts [.Expr (.Call (.Attribute (.Call (.Name su _) [] [] _) i2 p2) [.Name v3 _] [] p4) _, .Assign [.Attribute (.Name s6 _) v7 _] (.Name v8 _) _], scope, gl, [(cn, cc)], .none, .none, _, _, none, .ref c, _, bl⟩, _⟩ =>
    decide (su = ("super" : Str)) && decide (i2 = ("__init__" : Str)) && decide (v3 = ("value" : Str)) && decide (s6 = ("self" : Str)) && decide (v7 = ("value" : Str)) && decide (v8 = ("value" : Str)) && (p2.endLine == p4.line) && decide (cn = ("__class__" : Str)) && decide (gl = mainGlobals) && decide (bl = builtinsNs) && decide (a1 = ("self" : Str)) && decide (a2 = ("value" : Str)) &&
      PySem.W.codeIn K (.ref c) qual && nscB ["self", "value", "__class__"] ["self", "value"] ["__class__"] scope && decide (scope.names.lookup ("super" : Str) = some .globalImplicit) &&
      (match K.lookup c with
        | some ⟨_, _, .fields vs, _⟩ => fileB file vs[2]?
        | _ => false) &&
      (match K.lookup cc with
        | some ⟨_, _, .cell (some (.ref D')), _⟩ => decide (D' = D)
        | _ => false) && (PySem.W.clsIn K D).isSome && eqV (PySem.W.nsIn K cStatics "thirdparty.any") (some none)
  | _ => false
/-- the address of a class -/
def clA (names : List Str) (K : PySem.W.Frag) (c : Nat) : Addr := match names[c]? with
  | some x => He.ga K x
  | none => 0
def exK (names : List Str) (file : Str) (K : PySem.W.Frag) : Bool :=
  let cs := names.map (He.ga K)
  match cs with
  | [] => false
  | D :: _ =>
    let fI := He.ma K D "__init__"
    iniB K file fI D && cs.all (fun C => xcB K C D fI && exccB K C && xfB K C && yes (PySem.W.exmOne K (.ref C) (.ref D)) && decide (PySem.W.kitOne K (.type "NoneType") (.ref C) = some false)) &&
      (List.range cs.length).all fun c => (List.range cs.length).all fun k => decide (PySem.W.kitOne K (.ref (clA names K c)) (.ref (clA names K k)) = some (c == k || k == 0))
section
open He
def asY (g : Addr → Option Obj) (n : Nat) : List Addr := cStatics :: asD g n
def frY (g : Addr → Option Obj) (n : Nat) : PySem.W.Frag := frT g (asY g n)
def obsY (n : Nat) (fa : List Fa) (fn : List DefD) (tf : List Defn) (ex : PySem.W.Frag → Bool) (g : Addr → Option Obj) : AlX := (obsT fa fn [] (frY g n), ex (frY g n) && tabsB g tf (frY g n))
theorem saysY_of {n : Nat} {fa : List Fa} {fn : List DefD} {tf : List Defn} {ex : PySem.W.Frag → Bool} {w : World} {h : Heap} (e : obsY n fa fn tf ex h.get? = valX fn [] w) : SaysX fa fn [] tf ex w h (frY h.get? n) := by
  have e2 := ba (congrArg (fun z : AlX => z.2) e)
  have tab : ∀ p ∈ tf, PySem.W.codeHdIn (frY h.get? n) (cT (frY h.get? n) p).1 (cT (frY h.get? n) p).2 = true ∧ ∃ o, h.get? (cT (frY h.get? n) p).2 = some o ∧ emptyTab o = true := fun p hp => by
    obtain ⟨h3, h4⟩ := ba (List.all_eq_true.mp e2.2 p hp)
    refine ⟨h3, ?_⟩
    cases q : h.get? (cT (frY h.get? n) p).2 with
    | some o => rw [q] at h4; exact ⟨o, rfl, h4⟩
    | none => rw [q] at h4; cases h4
  refine ⟨congrArg (fun z : AlX => z.1) e, e2.1, fun p hp => (tab p hp).1, fun p hp => ?_, fun p hp => ?_⟩
  · have ⟨_, _, q, z⟩ := tab p hp
    exact frT_none q z
  · have ⟨_, _, q, z⟩ := tab p hp
    rw [q, emptyTab_eq z]
def hookY (n : Nat) (fa : List Fa) (fn : List DefD) (tf : List Defn) (ex : PySem.W.Frag → Bool) : PySem.W.Hook where
  α := AlX
  val := fun w => valX fn [] w
  obs := fun s => obsY n fa fn tf ex s.heap.get?
  says := fun w h => ∃ K : PySem.W.Frag, K.In h ∧ SaysX fa fn [] tf ex w h K
  of := fun _ _ e => ⟨frY _ n, frT_in, saysY_of e⟩
  keeps := fun _ _ _ ⟨K, i, c⟩ k => ⟨K, PySem.W.Frag.In.keeps i k, { c with empty := fun p hp => k _ _ (c.empty p hp) }⟩
theorem obsY_eq {n : Nat} {fa : List Fa} {fn : List DefD} {tf : List Defn} {ex : PySem.W.Frag → Bool} {g : Addr → Option Obj} {s : Shared} (h : ∀ a, g a = s.heap.get? a) : obsY n fa fn tf ex g = (hookY n fa fn tf ex).obs s := by
  rw [show g = s.heap.get? from funext h] <;> rfl
/-- no list stands in the written part -/
def isLst : Value → Bool
  | .type t => decide (t = "list")
  | _ => false
def noLst (K : PySem.W.Frag) : Bool := K.all fun p => !isLst p.2.cls
def exL (names : List Str) (file : Str) (K : PySem.W.Frag) : Bool := exK names file K && noLst K
end
def faG (p : Str × D) : Option He.Fa := match p.2 with
  | .int i => some (.int p.1 i)
  | .str z => some (.str p.1 z)
  | _ => none
def faOf (fn : List He.DefD) (clN : List Str) (gnL : List (Str × D)) : List He.Fa := (fn.map fun d => He.Fa.glo d.name) ++ (clN.map He.Fa.glo ++ ((("super" : Str) :: bltNames).map He.Fa.free ++ gnL.filterMap faG))
end Vi
/-! text Pg86 -/
set_option Elab.async false
set_option linter.all false
set_option maxRecDepth 100000
namespace Vi
open PySem PySem.Spec PyProof.Rows L2
namespace K86
def fnIx : List (PySem.Str × Nat) := [(("is_integer" : PySem.Str), (13 : Nat)), (("is_between" : PySem.Str), (14 : Nat)), (("are_between" : PySem.Str), (15 : Nat)), (("is_air" : PySem.Str), (25 : Nat)), (("is_push" : PySem.Str), (26 : Nat)), (("is_gear" : PySem.Str), (27 : Nat)), (("is_mill" : PySem.Str), (28 : Nat)), (("check_mill" : PySem.Str), (29 : Nat)), (("is_trim_of" : PySem.Str), (30 : Nat)), (("is_wind_of" : PySem.Str), (31 : Nat)), (("is_state_of" : PySem.Str), (32 : Nat)), (("check_state" : PySem.Str), (33 : Nat)), (("check_trim" : PySem.Str), (34 : Nat)), (("check_wind" : PySem.Str), (35 : Nat)), (("is_state" : PySem.Str), (36 : Nat)), (("trims_of" : PySem.Str), (37 : Nat)), (("trims" : PySem.Str), (38 : Nat)), (("state_count" : PySem.Str), (39 : Nat)), (("is_reach" : PySem.Str), (40 : Nat)), (("trims_near" : PySem.Str), (41 : Nat)), (("near_table" : PySem.Str), (42 : Nat)), (("winds_near" : PySem.Str), (43 : Nat)), (("near_trims" : PySem.Str), (44 : Nat)), (("near_winds" : PySem.Str), (45 : Nat)), (("are_near" : PySem.Str), (46 : Nat)), (("check_far" : PySem.Str), (48 : Nat)), (("check_tick" : PySem.Str), (49 : Nat)), (("speed_behind" : PySem.Str), (50 : Nat)), (("sacks_at" : PySem.Str), (51 : Nat)), (("next_speed" : PySem.Str), (52 : Nat)), (("check_tame" : PySem.Str), (53 : Nat)), (("next_state" : PySem.Str), (54 : Nat)), (("ground" : PySem.Str), (55 : Nat)), (("come_of" : PySem.Str), (56 : Nat)), (("may_come" : PySem.Str), (57 : Nat)), (("check_at" : PySem.Str), (66 : Nat)), (("is_tick" : PySem.Str), (67 : Nat)), (("is_day" : PySem.Str), (68 : Nat)), (("check_day" : PySem.Str), (69 : Nat)), (("bar_of" : PySem.Str), (70 : Nat)), (("gone_through" : PySem.Str), (71 : Nat)), (("run_day" : PySem.Str), (72 : Nat)), (("day_told" : PySem.Str), (73 : Nat)), (("all_from" : PySem.Str), (74 : Nat)), (("all_come" : PySem.Str), (75 : Nat)), (("fewest_of" : PySem.Str), (76 : Nat)), (("check_two" : PySem.Str), (77 : Nat)), (("fewest_ticks" : PySem.Str), (78 : Nat)), (("shows_fewest_ticks" : PySem.Str), (79 : Nat)), (("layers_from" : PySem.Str), (80 : Nat)), (("wildest_of" : PySem.Str), (81 : Nat)), (("check_ticks" : PySem.Str), (82 : Nat)), (("wildest" : PySem.Str), (83 : Nat)), (("shows_wildest" : PySem.Str), (84 : Nat)), (("_law_pot" : PySem.Str), (86 : Nat)), (("_law_take" : PySem.Str), (87 : Nat)), (("_law_of" : PySem.Str), (88 : Nat)), (("_law_cells" : PySem.Str), (89 : Nat)), (("_law_caught" : PySem.Str), (90 : Nat)), (("_law_is_raised" : PySem.Str), (91 : Nat)), (("_law_right" : PySem.Str), (92 : Nat)), (("law" : PySem.Str), (93 : Nat))]
def gnL : List (PySem.Str × D) := [(("MOST_SPEED" : PySem.Str), D.int 12), (("MOST_WIND" : PySem.Str), D.int 4), (("MOST_FORCE" : PySem.Str), D.int 9), (("MOST_HANDS" : PySem.Str), D.int 7), (("PARTS" : PySem.Str), D.int 5), (("MOST_PUSH" : PySem.Str), D.int 4), (("MOST_LAID" : PySem.Str), D.int 3), (("THREE" : PySem.Str), D.int 3), (("MOST_TICKS" : PySem.Str), D.int 40), (("GOES" : PySem.Str), D.str "goes"), (("TRIM" : PySem.Str), D.str "trim"), (("WIND" : PySem.Str), D.str "wind"), (("WILD" : PySem.Str), D.str "wild"), (("DAY" : PySem.Str), D.str "day"), (("NONE" : PySem.Str), D.str "none"), (("MillError" : PySem.Str), D.cls 0), (("BadDay" : PySem.Str), D.cls 1), (("BadMill" : PySem.Str), D.cls 2), (("BadState" : PySem.Str), D.cls 3), (("BadTicks" : PySem.Str), D.cls 4), (("BadTrim" : PySem.Str), D.cls 5), (("BadWind" : PySem.Str), D.cls 6), (("Far" : PySem.Str), D.cls 7), (("Gust" : PySem.Str), D.cls 8), (("Runaway" : PySem.Str), D.cls 9), (("Stuck" : PySem.Str), D.cls 10)]
def nCls : Nat := 11
end K86
end Vi
/-! text Hk86 -/
set_option Elab.async false
set_option linter.all false
set_option maxRecDepth 100000
set_option maxHeartbeats 0
namespace Hd
open PySem PySem.Spec PyProof.Rows L2
def defOf? : Stmt → Option He.DefD
  | .FunctionDef n a b _ _ _ sc _ _ _ => some ⟨(n, none), n, n, a, b, sc, [], []⟩
  | _ => none
abbrev Pg : Program := PySem.Challenge.pw_neverrunaway_k86_what_mills_and_days_ref
def fn : List He.DefD := Pg.main.body.filterMap defOf?
def clN : List PySem.Str := ["MillError", "BadDay", "BadMill", "BadState", "BadTicks", "BadTrim", "BadWind", "Far", "Gust", "Runaway", "Stuck"]
abbrev fa : List He.Fa := Vi.faOf fn clN Vi.K86.gnL
abbrev tf : List He.Defn := [("_law_right", none)]
abbrev exF : PySem.W.Frag → Bool := Vi.exL clN Pg.main.file
abbrev R : PySem.W.OpenRow := PySem.W.OpenLaw.row PySem.Challenge.rw_neverrunaway_k86_what_mills_and_days_ref
abbrev hk : PySem.W.Hook := Vi.hookY 4 fa fn tf exF
def ob (s : PySem.W.SharedT) : He.AlX := Vi.obsY 4 fa fn tf exF (HandSHeadRun.getT s)
theorem ob_eq (s : PySem.W.SharedT) : ob s = hk.obs s.abs := Vi.obsY_eq (HandSHeadRun.getT_eq s)
def nm0 : List PySem.Str := ["MillError", "BadDay", "BadMill", "BadState", "BadTicks", "BadTrim", "BadWind", "Far", "Gust", "Runaway", "Stuck", "is_integer", "is_between", "are_between", "MOST_SPEED", "MOST_WIND", "MOST_FORCE", "MOST_HANDS", "PARTS", "MOST_PUSH", "MOST_LAID", "THREE", "is_air", "is_push", "is_gear", "is_mill", "check_mill", "is_trim_of", "is_wind_of", "is_state_of"]
def nm1 : List PySem.Str := ["check_state", "check_trim", "check_wind", "is_state", "trims_of", "trims", "state_count", "is_reach", "trims_near", "near_table", "winds_near", "near_trims", "near_winds", "are_near", "check_far", "check_tick", "speed_behind", "sacks_at", "next_speed", "check_tame", "next_state", "ground", "come_of", "may_come", "MOST_TICKS", "GOES", "TRIM", "WIND", "WILD", "DAY"]
def nm2 : List PySem.Str := ["NONE", "check_at", "is_tick", "is_day", "check_day", "bar_of", "gone_through", "run_day", "day_told", "all_from", "all_come", "fewest_of", "check_two", "fewest_ticks", "shows_fewest_ticks", "layers_from", "wildest_of", "check_ticks", "wildest", "shows_wildest", "_law_pot", "_law_take", "_law_of", "_law_cells", "_law_caught", "_law_is_raised", "_law_right"]
def names : List PySem.Str := nm0 ++ nm1 ++ nm2
theorem run (w : World) : HandSHeadRun.RunEq R (PySem.W.view R.prog [93]) hk ob 40000 names w := by
  intro os
  kernel_rfl
end Hd
/-! text Vi2 -/
set_option Elab.async false
set_option linter.all false
set_option maxRecDepth 100000
set_option maxHeartbeats 1000000
/-! Vi, part 2: how trees lie in the hand layer's heap. -/
namespace Vi
open PySem PySem.Spec PyProof.Rows L2

/-- an int, a text as the layer's key -/
def D.key : D → Option Key
  | .int i => some (.inl i)
  | .str x => some (.inr x)
  | _ => none
mutual
/-- a key that may be nested -/
def D.nk : D → Option NestedKey
  | .non => some .none
  | .int i => some (.num i)
  | .str x => some (.text x)
  | .tup xs => (D.nks xs).map .tup
  | _ => none
def D.nks : List D → Option (List NestedKey)
  | [] => some []
  | d :: ds => match d.nk with
    | some k => (match D.nks ds with | some ks => some (k :: ks) | none => none)
    | none => none
end
abbrev NX := List (NestedKey × Addr × Value)
/-- a dict whose keys are tuples: its entries -/
def ND (P : Program) (w : World) (a : Addr) (xs : NX) : HO := .ext fun h => (a == sysModules) = false ∧ xs.length ≤ sizeLine ∧ (∀ x ∈ xs, x.1.depth ≤ 8) ∧ ∃ o es ep, h.get? a = some o ∧ o.ExactDict ∧ o.data = .dict es ep ∧ es.toList = xs.map (entryOfKey (nestedKind P w)) ∧ (xs.map (·.1)).Nodup

/-- the error classes' addresses; the tables of code objects: where they stand, the name that their code objects bear -/
structure Cc where
  at_ : Nat → Addr
  T : List (Addr × Str)
instance : CoeFun Cc (fun _ => Nat → Addr) := ⟨Cc.at_⟩
/-- the program, its world, the module's part, the classes' addresses and the tables -/
structure Wd where
  P : Program
  w : World
  K : PySem.W.Frag
  C : Cc

/-- an exception's object -/
def ExV (a C dx : Addr) : HO := .ext fun h => ∃ (oe : Obj) (vs : Array Value), h.get? a = some oe ∧ Zc (.ref C) (some dx) oe ∧ oe.data = .fields vs
/-- locked -/
def Fz (F : Hp) (a : Addr) (u : HO) : Prop := ∃ o, F a = some (.frz o u)
mutual
/-- the value v is the tree d; F: the facts that stay for good; μ: where Vi's own objects stand -/
inductive DR (W : Wd) (F : Hp) (μ : List Addr) : D → V → Prop
  | non : DR W F μ .non .non
  | bl (b : Bool) : DR W F μ (.bl b) (.bl b)
  | int (i : Int) : DR W F μ (.int i) (.int i)
  | str (x : Str) : DR W F μ (.str x) (.str x)
  | tup {a : Addr} {xs : List D} {vs : List V} : SqT W.K F a vs → DRs W F μ xs vs → DR W F μ (.tup xs) (.ref a)
  | lst {a : Addr} {xs : List D} {vs : List V} : Rd F a (.lst vs) → DRs W F μ xs vs → DR W F μ (.lst xs) (.ref a)
  | dk {a : Addr} {ks vs : List D} {kvs : List (Key × V)} : Fz F a (.dK kvs) → DRk W F μ ks vs kvs → DR W F μ (.dct ks vs) (.ref a)
  | dn {a : Addr} {ks vs : List D} {xs : NX} : Fz F a (ND W.P W.w a xs) → DRn W F μ ks vs xs → DR W F μ (.dct ks vs) (.ref a)
  | ref {j : Nat} {a : Addr} : μ[j]? = some a → DR W F μ (.ref j) (.ref a)
  | cls (c : Nat) : DR W F μ (.cls c) (.ref (W.C c))
  | exc {c : Nat} {a dx : Addr} {d : D} {v : V} : F a = some (ExV a (W.C c) dx) → F dx = some (.xd [("value", v)]) → DR W F μ d v → DR W F μ (.exc c d) (.ref a)
  | ty (n : String) : DR W F μ (.ty n) (.ty n)
  | obj (a : Addr) : DR W F μ (.obj a) (.ref a)
inductive DRs (W : Wd) (F : Hp) (μ : List Addr) : List D → List V → Prop
  | nil : DRs W F μ [] []
  | cons {d : D} {ds : List D} {v : V} {vs : List V} : DR W F μ d v → DRs W F μ ds vs → DRs W F μ (d :: ds) (v :: vs)
/-- int and text keys -/
inductive DRk (W : Wd) (F : Hp) (μ : List Addr) : List D → List D → List (Key × V) → Prop
  | nil : DRk W F μ [] [] []
  | cons {k d : D} {ks ds : List D} {key : Key} {v : V} {kvs : List (Key × V)} : k.key = some key → DR W F μ d v → DRk W F μ ks ds kvs → DRk W F μ (k :: ks) (d :: ds) ((key, v) :: kvs)
inductive DRn (W : Wd) (F : Hp) (μ : List Addr) : List D → List D → NX → Prop
  | nil : DRn W F μ [] [] []
  | cons {k d : D} {ks ds : List D} {key : NestedKey} {b : Addr} {v : V} {u : Value} {xs : NX} : k.nk = some key → DR W F μ k (.ref b) → RelV v u → DR W F μ d v → DRn W F μ ks ds xs → DRn W F μ (k :: ks) (d :: ds) ((key, b, u) :: xs)
end

/-- more facts -/
def Sub (F F' : Hp) : Prop := ∀ a u, F a = some u → F' a = some u
theorem Sub.refl (F : Hp) : Sub F F := fun _ _ h => h
theorem Sub.trans {F G J : Hp} (a : Sub F G) (b : Sub G J) : Sub F J := fun x u h => b x u (a x u h)
theorem Sub.rd {F G : Hp} (h : Sub F G) {a : Addr} {u : HO} (r : Rd F a u) : Rd G a u := r.elim (fun z => .inl (h _ _ z)) fun ⟨o, z⟩ => .inr ⟨o, h _ _ z⟩
theorem Sub.fz {F G : Hp} (h : Sub F G) {a : Addr} {u : HO} (r : Fz F a u) : Fz G a u := let ⟨o, z⟩ := r; ⟨o, h _ _ z⟩
theorem Sub.l {F G : Hp} (h : Sub F G) {K : PySem.W.Frag} {a : Addr} {xs : List V} (r : SqL K F a xs) : SqL K G a xs := r.elim (fun z => .inl (h.rd z)) .inr
theorem Sub.t {F G : Hp} (h : Sub F G) {K : PySem.W.Frag} {a : Addr} {xs : List V} (r : SqT K F a xs) : SqT K G a xs := r.elim (fun z => .inl (h.rd z)) .inr
theorem Sub.upd {F : Hp} {a : Addr} {o : HO} (h : F a = none) : Sub F (upd F a o) := fun b u e => by rw [upd_ne (ne_of_none e h)]; exact e

section
variable {W : Wd} {F F' : Hp} {μ μ' : List Addr}
abbrev Pre (μ μ' : List Addr) : Prop := ∀ (j : Nat) (a : Addr), μ[j]? = some a → μ'[j]? = some a
mutual
theorem DR.mono (h : Sub F F') (hm : Pre μ μ') : ∀ {d : D} {v : V}, DR W F μ d v → DR W F' μ' d v
  | _, _, .non => .non
  | _, _, .bl b => .bl b
  | _, _, .int i => .int i
  | _, _, .str x => .str x
  | _, _, .tup a b => .tup (h.t a) (DRs.mono h hm b)
  | _, _, .lst a b => .lst (h.rd a) (DRs.mono h hm b)
  | _, _, .dk a b => .dk (h.fz a) (DRk.mono h hm b)
  | _, _, .dn a b => .dn (h.fz a) (DRn.mono h hm b)
  | _, _, .ref a => .ref (hm _ _ a)
  | _, _, .cls c => .cls c
  | _, _, .exc a b c => .exc (h _ _ a) (h _ _ b) (DR.mono h hm c)
  | _, _, .ty n => .ty n
  | _, _, .obj a => .obj a
theorem DRs.mono (h : Sub F F') (hm : Pre μ μ') : ∀ {d : List D} {v : List V}, DRs W F μ d v → DRs W F' μ' d v
  | _, _, .nil => .nil
  | _, _, .cons a b => .cons (DR.mono h hm a) (DRs.mono h hm b)
theorem DRk.mono (h : Sub F F') (hm : Pre μ μ') : ∀ {k d : List D} {v : List (Key × V)}, DRk W F μ k d v → DRk W F' μ' k d v
  | _, _, _, .nil => .nil
  | _, _, _, .cons a b c => .cons a (DR.mono h hm b) (DRk.mono h hm c)
theorem DRn.mono (h : Sub F F') (hm : Pre μ μ') : ∀ {k d : List D} {v : NX}, DRn W F μ k d v → DRn W F' μ' k d v
  | _, _, _, .nil => .nil
  | _, _, _, .cons a b r c e => .cons a (DR.mono h hm b) r (DR.mono h hm c) (DRn.mono h hm e)
end
theorem DRs.length : ∀ {ds : List D} {vs : List V}, DRs W F μ ds vs → ds.length = vs.length
  | _, _, .nil => rfl
  | _, _, .cons _ t => congrArg (· + 1) (DRs.length t)
theorem DRs.append : ∀ {ds es : List D} {vs us : List V}, DRs W F μ ds vs → DRs W F μ es us → DRs W F μ (ds ++ es) (vs ++ us)
  | _, _, _, _, .nil, h => h
  | _, _, _, _, .cons a t, h => .cons a (DRs.append t h)
theorem DRs.get : ∀ {ds : List D} {vs : List V} {i : Nat} {d : D}, DRs W F μ ds vs → ds[i]? = some d → ∃ v, vs[i]? = some v ∧ DR W F μ d v
  | _, _, 0, _, .cons a _, h => ⟨_, rfl, by cases h; exact a⟩
  | _, _, i + 1, _, .cons _ t, h => by
    obtain ⟨v, h1, h2⟩ := DRs.get (i := i) t (by simpa using h)
    exact ⟨v, by simpa using h1, h2⟩
theorem DRs.getV : ∀ {ds : List D} {vs : List V} {i : Nat} {v : V}, DRs W F μ ds vs → vs[i]? = some v → ∃ d, ds[i]? = some d ∧ DR W F μ d v
  | _, _, 0, _, .cons a _, h => ⟨_, rfl, by cases h; exact a⟩
  | _, _, i + 1, _, .cons _ t, h => by
    obtain ⟨v, h1, h2⟩ := DRs.getV (i := i) t (by simpa using h)
    exact ⟨v, by simpa using h1, h2⟩
theorem DRs.take : ∀ (n : Nat) {ds : List D} {vs : List V}, DRs W F μ ds vs → DRs W F μ (ds.take n) (vs.take n)
  | 0, _, _, _ => by simpa using .nil
  | _ + 1, _, _, .nil => by simpa using .nil
  | n + 1, _, _, .cons a t => by simpa using .cons a (DRs.take n t)
theorem DRs.drop : ∀ (n : Nat) {ds : List D} {vs : List V}, DRs W F μ ds vs → DRs W F μ (ds.drop n) (vs.drop n)
  | 0, _, _, h => by simpa using h
  | _ + 1, _, _, .nil => by simpa using .nil
  | n + 1, _, _, .cons _ t => by simpa using DRs.drop n t
theorem DRs.reverse : ∀ {ds : List D} {vs : List V}, DRs W F μ ds vs → DRs W F μ ds.reverse vs.reverse
  | _, _, .nil => by simpa using .nil
  | _, _, .cons a t => by simpa using (DRs.reverse t).append (.cons a .nil)
theorem DRs.set : ∀ {ds : List D} {vs : List V} (i : Nat) {d : D} {v : V}, DRs W F μ ds vs → DR W F μ d v → DRs W F μ (ds.set i d) (vs.set i v)
  | _, _, _, _, _, .nil, _ => by simpa using .nil
  | _, _, 0, _, _, .cons _ t, h => by simpa using .cons h t
  | _, _, i + 1, _, _, .cons a t, h => by simpa using .cons a (DRs.set i t h)
mutual
theorem DR.dp : ∀ {d : D} {v : V} {p : PyData}, DR W F μ d v → d.py = some p → Dp W.K F v p
  | _, _, p, .non, e => by simp only [D.py] at e; cases e; exact .non
  | _, _, p, .bl b, e => by simp only [D.py] at e; cases e; exact .bl b
  | _, _, p, .int i, e => by simp only [D.py] at e; cases e; exact .int i
  | _, _, p, .str x, e => by simp only [D.py] at e; cases e; exact .str x
  | _, _, p, .tup (xs := xs) a b, e => by
    simp only [D.py] at e
    cases h : D.pys xs with
    | none => rw [h] at e; cases e
    | some ps => rw [h] at e; cases e; exact .tup a (DRs.dp b h)
  | _, _, p, .lst (xs := xs) a b, e => by
    simp only [D.py] at e
    cases h : D.pys xs with
    | none => rw [h] at e; cases e
    | some ps => rw [h] at e; cases e; exact .lst (.inl a) (DRs.dp b h)
  | _, _, p, .dk _ _, e => by simp [D.py] at e
  | _, _, p, .dn _ _, e => by simp [D.py] at e
  | _, _, p, .ref _, e => by simp [D.py] at e
  | _, _, p, .cls _, e => by simp [D.py] at e
  | _, _, p, .exc _ _ _, e => by simp [D.py] at e
  | _, _, p, .ty _, e => by simp [D.py] at e
  | _, _, p, .obj _, e => by simp [D.py] at e
theorem DRs.dp : ∀ {d : List D} {v : List V} {p : List PyData}, DRs W F μ d v → D.pys d = some p → DpAll W.K F v p
  | _, _, p, .nil, e => by simp only [D.pys] at e; cases e; exact .nil
  | _, _, p, .cons (d := d) (ds := ds) a b, e => by
    simp only [D.pys] at e
    cases h1 : d.py with
    | none => rw [h1] at e; cases e
    | some q =>
      rw [h1] at e
      cases h2 : D.pys ds with
      | none => rw [h2] at e; cases e
      | some qs => rw [h2] at e; cases e; exact .cons (DR.dp a h1) (DRs.dp b h2)
end
end
end Vi
/-! text Vi3 -/
set_option Elab.async false
set_option linter.all false
set_option maxRecDepth 100000
set_option maxHeartbeats 1000000
/-! Vi, part 3: the state's relation, steps, readings. -/
namespace Vi
open PySem PySem.Spec PyProof.Rows L2

/-- a list, a dict that one holds alone, at a -/
def Liv (W : Wd) (F : Hp) (μ : List Addr) (H : Hp) (a : Addr) : D → Prop
  | .lst xs => ∃ vs, H a = some (.lst vs) ∧ DRs W F μ xs vs
  | .dct ks vs => (∃ kvs, H a = some (.dK kvs) ∧ DRk W F μ ks vs kvs) ∨ ∃ xs, H a = some (ND W.P W.w a xs) ∧ DRn W F μ ks vs xs
  | _ => False
/-- the slot i holds a alone -/
def Own (S : St) (σ : L2.St) (a : Addr) : Prop := ∃ (i : Nat) (d : D), S.σ[i]? = some (.o d) ∧ σ[i]? = some (some (.ref a))
/-- no table of code objects -/
def NT (u : HO) : Prop := ∀ ps, u ≠ .tbl ps
theorem NT.lst {xs : List V} : NT (.lst xs) := fun _ z => by cases z
/-- an error's dict, a table -/
def Nl (u : HO) : Prop := (∃ fs, u = .xd fs) ∨ ∃ ps, u = .tbl ps
/-- the tables of code objects, all that they tell known for good -/
def TabF (T : List (Addr × Str)) (F H : Hp) : Prop := ∀ p ∈ T, F p.1 = none ∧ ∃ ps : Array Value, H p.1 = some (.tbl ps) ∧ TriplesOk ps.toList ∧ ∀ (pos : Pos) (cv : Value), codeAmong pos ps.toList = some cv → ∃ c, cv = .ref c ∧ F c = some (LamX.CodeO c p.2)
theorem TabF.nil {F H : Hp} : TabF [] F H := fun _ h => nomatch h
theorem TabF.mono {T : List (Addr × Str)} {F F' H H' : Hp} (t : TabF T F H) (hs : Sub F F') (hn : ∀ a ps, H a = some (.tbl ps) → F a = none → F' a = none) (k : ∀ a ps, H a = some (.tbl ps) → H' a = some (.tbl ps)) : TabF T F' H' := fun p hp => by
  obtain ⟨h0, ps, h1, h2, h3⟩ := t p hp
  refine ⟨hn _ _ h1 h0, ps, k _ _ h1, h2, fun pos cv hc => ?_⟩
  obtain ⟨c, e1, e2⟩ := h3 pos cv hc
  exact ⟨c, e1, hs _ _ e2⟩
theorem TabF.upd {T : List (Addr × Str)} {F H : Hp} {a : Addr} {o : HO} (t : TabF T F H) (n : ∀ ps, H a ≠ some (.tbl ps)) : TabF T F (L2.upd H a o) := t.mono (Sub.refl F) (fun _ _ _ z => z) fun b ps e => by
  have hb : b ≠ a := fun z => n ps (by rw [← z]; exact e)
  rw [L2.upd_ne hb]; exact e
theorem TabF.updF {T : List (Addr × Str)} {F H : Hp} {a : Addr} {o o' : HO} (t : TabF T F H) (hs : Sub F (L2.upd F a o')) (n : ∀ ps, H a ≠ some (.tbl ps)) : TabF T (L2.upd F a o') (L2.upd H a o) := t.mono hs (fun b ps e z => by
  have hb : b ≠ a := fun z => n ps (by rw [← z]; exact e)
  rw [L2.upd_ne hb]; exact z) fun b ps e => by
  have hb : b ≠ a := fun z => n ps (by rw [← z]; exact e)
  rw [L2.upd_ne hb]; exact e
theorem TabF.new {T : List (Addr × Str)} {F H : Hp} {a : Addr} {o : HO} (t : TabF T F H) (n : H a = none) : TabF T F (L2.upd H a o) := t.upd fun ps z => by rw [n] at z; cases z
theorem TabF.newF {T : List (Addr × Str)} {F H : Hp} {a : Addr} {o o' : HO} (t : TabF T F H) (hs : Sub F (L2.upd F a o')) (n : H a = none) : TabF T (L2.upd F a o') (L2.upd H a o) := t.updF hs fun ps z => by rw [n] at z; cases z
structure Rel (W : Wd) (F : Hp) (μ : List Addr) (S : St) (σ : L2.St) (H : Hp) : Prop where
  len : S.σ.length = σ.length
  sub : Sub F H
  sl : ∀ (i : Nat) (d : D), S.σ[i]? = some (.s d) → ∃ v, σ[i]? = some (some v) ∧ DR W F μ d v
  ow : ∀ (i : Nat) (d : D), S.σ[i]? = some (.o d) → ∃ a, σ[i]? = some (some (.ref a)) ∧ Liv W F μ H a d ∧ a ∉ μ ∧ F a = none
  apart : ∀ (i j : Nat) (d e : D) (a : Addr), S.σ[i]? = some (.o d) → S.σ[j]? = some (.o e) → σ[i]? = some (some (.ref a)) → σ[j]? = some (some (.ref a)) → i = j
  hl : S.h.length = μ.length
  hp : ∀ (j : Nat) (d : D) (a : Addr), S.h[j]? = some d → μ[j]? = some a → Liv W F μ H a d ∧ F a = none
  inj : μ.Nodup
  tab : TabF W.C.T F H
structure Step (W : Wd) (F : Hp) (μ : List Addr) (S : St) (σ : L2.St) (H F' : Hp) (μ' : List Addr) (S' : St) (σ' : L2.St) (H' : Hp) : Prop where
  sub : Sub F F'
  pre : Pre μ μ'
  rel : Rel W F' μ' S' σ' H'
  keep : ∀ a u, H a = some u → NT u → a ∉ μ → ¬ Own S σ a → H' a = some u
  trk : ∀ a, H' a = none → H a = none
  own : ∀ a, Own S' σ' a → Own S σ a ∨ H a = none
  fr : ∀ a ∈ μ', a ∈ μ ∨ H a = none
  fnew : ∀ a, F a = none → F' a = none ∨ H a = none ∨ Own S σ a ∨ ∃ u, H a = some u ∧ Nl u
/-- a slot that holds something holds something -/
def Ne (S S' : St) : Prop := ∀ i : Nat, (∃ d : D, S.σ[i]? = some (.s d) ∨ S.σ[i]? = some (.o d)) → ∃ d : D, S'.σ[i]? = some (.s d) ∨ S'.σ[i]? = some (.o d)
theorem Ne.refl (S : St) : Ne S S := fun _ h => h
theorem Ne.trans {S T U : St} (a : Ne S T) (b : Ne T U) : Ne S U := fun i h => b i (a i h)

section
variable {W : Wd} {F F' F'' : Hp} {μ μ' μ'' : List Addr} {S S' S'' : St} {σ σ' σ'' : L2.St} {H H' H'' H0 : Hp}
theorem Liv.trk {a : Addr} {d : D} (h : Liv W F μ H a d) : H a ≠ none := by
  intro e
  cases d with
  | lst xs => obtain ⟨vs, q, _⟩ := h; rw [e] at q; cases q
  | dct ks vs => rcases h with ⟨_, q, _⟩ | ⟨_, q, _⟩ <;> (rw [e] at q; cases q)
  | _ => exact h
theorem Liv.nt {a : Addr} {d : D} {u : HO} (h : Liv W F μ H a d) (e : H a = some u) : NT u := fun ps z => by
  subst z
  cases d with
  | lst xs => obtain ⟨vs, q, _⟩ := h; rw [e] at q; cases q
  | dct ks vs => rcases h with ⟨_, q, _⟩ | ⟨_, q, _⟩ <;> (rw [e] at q; cases q)
  | _ => exact h
theorem Liv.nnl {a : Addr} {d : D} (h : Liv W F μ H a d) : ¬ ∃ u, H a = some u ∧ Nl u := fun ⟨u, e, z⟩ => by
  rcases z with ⟨fs, rfl⟩ | ⟨ps, rfl⟩
  · cases d with
    | lst xs => obtain ⟨vs, q, _⟩ := h; rw [e] at q; cases q
    | dct ks vs => rcases h with ⟨_, q, _⟩ | ⟨_, q, _⟩ <;> (rw [e] at q; cases q)
    | _ => exact h
  · exact h.nt e ps rfl
theorem Liv.ntb {a : Addr} {d : D} (h : Liv W F μ H a d) : ∀ ps, H a ≠ some (.tbl ps) := fun ps e => h.nt e ps rfl
theorem Liv.mut {a : Addr} {d : D} (h : Liv W F μ H a d) : L2.Mut (H a) := by
  cases d with
  | lst xs => obtain ⟨vs, q, _⟩ := h; rw [q]; trivial
  | dct ks vs => rcases h with ⟨_, q, _⟩ | ⟨_, q, _⟩ <;> (rw [q]; trivial)
  | _ => exact h.elim
theorem Liv.mono {a : Addr} {d : D} (h : Liv W F μ H a d) (hs : Sub F F') (hm : Pre μ μ') (e : H' a = H a) : Liv W F' μ' H' a d := by
  cases d with
  | lst xs => obtain ⟨vs, q, r⟩ := h; exact ⟨vs, e.trans q, r.mono hs hm⟩
  | dct ks vs =>
    rcases h with ⟨kvs, q, r⟩ | ⟨xs, q, r⟩
    · exact .inl ⟨kvs, e.trans q, r.mono hs hm⟩
    · exact .inr ⟨xs, e.trans q, r.mono hs hm⟩
  | _ => exact h.elim
theorem Rel.ownTrk (R : Rel W F μ S σ H) {a : Addr} (h : Own S σ a) : H a ≠ none := by
  obtain ⟨i, d, h1, h2⟩ := h
  obtain ⟨b, e, l, _⟩ := R.ow i d h1
  rw [h2] at e
  cases e
  exact l.trk
theorem Rel.muTrk (R : Rel W F μ S σ H) {a : Addr} (h : a ∈ μ) : H a ≠ none := by
  obtain ⟨j, hj, e⟩ := List.getElem_of_mem h
  have hj' : j < S.h.length := by rw [R.hl]; exact hj
  exact (R.hp j (S.h[j]) a (List.getElem?_eq_getElem hj') (by rw [List.getElem?_eq_getElem hj, e])).1.trk
theorem Step.refl (R : Rel W F μ S σ H) : Step W F μ S σ H F μ S σ H :=
  ⟨Sub.refl F, fun _ _ h => h, R, fun _ _ h _ _ _ => h, fun _ h => h, fun _ h => .inl h, fun _ h => .inl h, fun _ h => .inl h⟩
theorem Step.trans (a : Step W F μ S σ H F' μ' S' σ' H') (b : Step W F' μ' S' σ' H' F'' μ'' S'' σ'' H'') : Step W F μ S σ H F'' μ'' S'' σ'' H'' where
  sub := a.sub.trans b.sub
  pre := fun j x h => b.pre j x (a.pre j x h)
  rel := b.rel
  keep := fun x u h1 nt h2 h3 => by
    have q := a.keep x u h1 nt h2 h3
    refine b.keep x u q nt (fun z => ?_) fun z => ?_
    · rcases a.fr x z with z | z
      · exact h2 z
      · rw [h1] at z; cases z
    · rcases a.own x z with z | z
      · exact h3 z
      · rw [h1] at z; cases z
  trk := fun x h => a.trk x (b.trk x h)
  own := fun x h => by
    rcases b.own x h with z | z
    · exact a.own x z
    · exact .inr (a.trk x z)
  fr := fun x h => by
    rcases b.fr x h with z | z
    · exact a.fr x z
    · exact .inr (a.trk x z)
  fnew := fun x h => by
    rcases a.fnew x h with z | z
    · rcases b.fnew x z with y | y | y | ⟨u, y, nl⟩
      · exact .inl y
      · exact .inr (.inl (a.trk x y))
      · rcases a.own x y with y | y
        · exact .inr (.inr (.inl y))
        · exact .inr (.inl y)
      · cases e : H x with
        | none => exact .inr (.inl rfl)
        | some u0 =>
          by_cases own : Own S σ x
          · exact .inr (.inr (.inl own))
          · by_cases nt : NT u0
            · by_cases hm : x ∈ μ
              · exfalso
                obtain ⟨j, hj, ej⟩ := List.getElem_of_mem hm
                have e1 : μ'[j]? = some x := a.pre j x (by rw [List.getElem?_eq_getElem hj, ej])
                have hl := a.rel.hl
                have hj2 : j < S'.h.length := by rw [hl]; exact (List.getElem?_eq_some_iff.mp e1).1
                exact (a.rel.hp j _ x (List.getElem?_eq_getElem hj2) e1).1.nnl ⟨u, y, nl⟩
              · have q := a.keep x u0 e nt hm own
                rw [y] at q
                cases q
                exact .inr (.inr (.inr ⟨u, rfl, nl⟩))
            · have : ∃ ps, u0 = .tbl ps := by
                refine Classical.byContradiction fun z => nt fun ps q => z ⟨ps, q⟩
              exact .inr (.inr (.inr ⟨u0, rfl, .inr this⟩))
    · exact .inr z

/-- what an O is, as a value of the layer; H0: the heap ahead -/
def OR (W : Wd) (H0 F : Hp) (μ : List Addr) (S : St) (σ : L2.St) (H : Hp) : O → V → Prop
  | .v d, v => DR W F μ d v
  | .w d, v => ∃ a, v = .ref a ∧ Liv W F μ H a d ∧ a ∉ μ ∧ F a = none ∧ ¬ Own S σ a ∧ H0 a = none
  | .at i, v => σ[i]? = some (some v) ∧ ∃ d : D, S.σ[i]? = some (.s d) ∨ S.σ[i]? = some (.o d)
inductive ORs (W : Wd) (H0 F : Hp) (μ : List Addr) (S : St) (σ : L2.St) (H : Hp) : List O → List V → Prop
  | nil : ORs W H0 F μ S σ H [] []
  | cons {o : O} {os : List O} {v : V} {vs : List V} : OR W H0 F μ S σ H o v → ORs W H0 F μ S σ H os vs → ORs W H0 F μ S σ H (o :: os) (v :: vs)
theorem OR.back {o : O} {v : V} (h : OR W H F μ S σ H' o v) (hb : ∀ a, H a = none → H0 a = none) : OR W H0 F μ S σ H' o v := by
  cases o with
  | v d => exact h
  | w d => obtain ⟨a, h1, h2, h3, h4, h5, h6⟩ := h; exact ⟨a, h1, h2, h3, h4, h5, hb a h6⟩
  | «at» i => exact h
theorem OR.step {o : O} {v : V} (h : OR W H0 F μ S σ H o v) (t : Step W F μ S σ H F' μ' S' σ H') (n : Ne S S') : OR W H0 F' μ' S' σ H' o v := by
  cases o with
  | v d => exact DR.mono t.sub t.pre h
  | w d =>
    obtain ⟨a, h1, h2, h3, h4, h5, h6⟩ := h
    have tr := h2.trk
    obtain ⟨u, hu⟩ := Option.ne_none_iff_exists'.mp tr
    refine ⟨a, h1, h2.mono t.sub t.pre ((t.keep a u hu (h2.nt hu) h3 h5).trans hu.symm), fun z => ?_, ?_, fun z => ?_, h6⟩
    · rcases t.fr a z with z | z
      · exact h3 z
      · exact tr z
    · rcases t.fnew a h4 with z | z | z | z
      · exact z
      · exact absurd z tr
      · exact absurd z h5
      · exact absurd z h2.nnl
    · rcases t.own a z with z | z
      · exact h5 z
      · exact tr z
  | «at» i => exact ⟨h.1, n i h.2⟩
theorem ORs.back : ∀ {o : List O} {v : List V}, ORs W H F μ S σ H' o v → (∀ a, H a = none → H0 a = none) → ORs W H0 F μ S σ H' o v
  | _, _, .nil, _ => .nil
  | _, _, .cons a t, h => .cons (a.back h) (ORs.back t h)
theorem ORs.step : ∀ {o : List O} {v : List V}, ORs W H0 F μ S σ H o v → Step W F μ S σ H F' μ' S' σ H' → Ne S S' → ORs W H0 F' μ' S' σ H' o v
  | _, _, .nil, _, _ => .nil
  | _, _, .cons a t, s, n => .cons (a.step s n) (ORs.step t s n)
end

/-! ### readings -/
/-- how an exception of the class c with the value d is wished for -/
def ExOk (W : Wd) (E : XK) (F : Hp) (μ : List Addr) (S : St) (σ : L2.St) (H : Hp) (c : Nat) (d : D) (S' : St) : Prop :=
  ∀ F' μ' H' dx v, Step W F μ S σ H F' μ' S' σ H' → H' dx = some (.xd [("value", v)]) → DR W F' μ' d v → E (.ref (W.C c)) (some dx) H'
/-- a relation between what Vi gives and what the layer gives; its first heap: the one ahead -/
abbrev RT (α β : Type) := Hp → Hp → List Addr → St → L2.St → Hp → α → β → Prop
def Post {α β : Type} (W : Wd) (E : XK) (Rα : RT α β) (m : M α) (F : Hp) (μ : List Addr) (S : St) (σ : L2.St) (H : Hp) (Q : β → Hp → Prop) : Prop :=
  match m S with
  | .ok a S' => ∀ F' μ' b H', Step W F μ S σ H F' μ' S' σ H' → Ne S S' → Rα H F' μ' S' σ H' a b → Q b H'
  | .exc c d S' => ExOk W E F μ S σ H c d S'
  | .fail => False
def tG {α β : Type} (W : Wd) (E : XK) (Rα : RT α β) (m : M α) : L2.St → Hp → (β → Hp → Prop) → Prop := fun σ H Q => ∃ F μ S, Rel W F μ S σ H ∧ Post W E Rα m F μ S σ H Q
def RB : RT Bool Bool := fun _ _ _ _ _ _ a b => a = b
abbrev tE (W : Wd) (E : XK) (m : M O) : L2.TE := tG W E (OR W) m
abbrev tT (W : Wd) (E : XK) (m : M Bool) : L2.TT := tG W E RB m
abbrev tA (W : Wd) (E : XK) (m : M (List O)) : L2.TA := tG W E (ORs W) m
/-- the heap ahead may be an earlier one -/
class Bk {α β : Type} (Rα : RT α β) : Prop where
  back : ∀ {H0 H F μ S σ H' a b}, Rα H F μ S σ H' a b → (∀ x, H x = none → H0 x = none) → Rα H0 F μ S σ H' a b
instance {W : Wd} : Bk (OR W) := ⟨fun h k => h.back k⟩
instance {W : Wd} : Bk (ORs W) := ⟨fun h k => h.back k⟩
instance : Bk RB := ⟨fun h _ => h⟩
section
variable {α β γ δ : Type} {W : Wd} {E : XK} {F : Hp} {μ : List Addr} {S : St} {σ : L2.St} {H : Hp}
theorem Post.fail {Rα : RT α β} {Q : β → Hp → Prop} (h : Post W E Rα Vi.fail F μ S σ H Q) : False := h
theorem Post.bind {Rα : RT α β} {Rγ : RT γ δ} [Bk Rγ] {m : M α} {k : α → M γ} {Q : δ → Hp → Prop} (h : Post W E Rγ (Vi.bind m k) F μ S σ H Q) :
    Post W E Rα m F μ S σ H fun b H1 => ∃ a F1 μ1 S1, Rα H F1 μ1 S1 σ H1 a b ∧ Step W F μ S σ H F1 μ1 S1 σ H1 ∧ Ne S S1 ∧ Post W E Rγ (k a) F1 μ1 S1 σ H1 Q := by
  unfold Post Vi.bind at h
  unfold Post
  cases e : m S with
  | fail => rw [e] at h; exact h
  | exc c d S' => rw [e] at h; exact h
  | ok a S' =>
    rw [e] at h
    intro F' μ' b H' t n r
    refine ⟨a, F', μ', S', r, t, n, ?_⟩
    cases e2 : k a S' with
    | fail => simp only [e2] at h
    | exc c d S'' => simp only [e2] at h; exact fun F'' μ'' H'' dx v t2 => h F'' μ'' H'' dx v (t.trans t2)
    | ok c S'' => simp only [e2] at h; exact fun F'' μ'' b' H'' t2 n2 r2 => h F'' μ'' b' H'' (t.trans t2) (n.trans n2) (Bk.back r2 t.trk)
theorem Post.ret {Rα : RT α β} {a : α} {Q : β → Hp → Prop} (h : Post W E Rα (Vi.ret a) F μ S σ H Q) (R : Rel W F μ S σ H) {b : β} (r : Rα H F μ S σ H a b) : Q b H := h F μ b H (Step.refl R) (Ne.refl S) r
/-- a step that Vi takes without the layer's -/
theorem Post.pure {Rγ : RT γ δ} [Bk Rγ] {m : M α} {k : α → M γ} {Q : δ → Hp → Prop} (h : Post W E Rγ (Vi.bind m k) F μ S σ H Q) (hm : ∀ c d S', m S ≠ .exc c d S') : ∃ a S1, m S = .ok a S1 ∧ (S1 = S → Post W E Rγ (k a) F μ S σ H Q) := by
  unfold Post Vi.bind at h
  cases e : m S with
  | fail => rw [e] at h; exact h.elim
  | exc c d S' => exact absurd e (hm c d S')
  | ok a S' =>
    rw [e] at h
    refine ⟨a, S', rfl, fun q => ?_⟩
    subst q
    exact h
end
end Vi
/-! text Vi4 -/
set_option Elab.async false
set_option linter.all false
set_option maxRecDepth 100000
set_option maxHeartbeats 1000000
/-! Vi, part 4: handing on for good; names, constants, operators. -/
namespace Vi
open PySem PySem.Spec PyProof.Rows L2

/-- things may be locked for good -/
inductive Gz (P : Hp → Prop) : Hp → Prop
  | done {H : Hp} : P H → Gz P H
  | step {H : Hp} {a : Addr} {u : HO} : H a = some u → Mut (some u) → (∀ od, Gz P (upd H a (.frz od u))) → Gz P H
theorem Inv.gz {X : Cx} {pins : List (Addr × Obj)} {σ : L2.St} {s : Shared} {P : Hp → Prop} : ∀ {H : Hp}, Gz P H → Inv X pins σ H s → ∃ H', Inv X pins σ H' s ∧ P H' := by
  intro H h
  induction h with
  | done p => intro I; exact ⟨_, I, p⟩
  | step e mu _ ih =>
    intro I
    obtain ⟨od, I1⟩ := I.lock e mu
    exact ih od I1
theorem Gz.mono {P P' : Hp → Prop} (f : ∀ H, P H → P' H) : ∀ {H : Hp}, Gz P H → Gz P' H := by
  intro H h
  induction h with
  | done p => exact .done (f _ p)
  | step e mu _ ih => exact .step e mu ih
section
variable {X : Cx} {e : Expr} {es : List Expr}
theorem peG {t : TE} (h : PE X e t) : PE X e fun σ H Q => t σ H fun v H1 => Gz (Q v) H1 := ⟨fun pins s σ H Q I hw =>
  thn (h.run pins s σ H _ I hw) fun v s1 ⟨x, H1, I1, r, g⟩ => let ⟨H2, I2, q⟩ := Inv.gz g I1; ⟨x, H2, I2, r, q⟩⟩
theorem peW {t u : TE} (h : PE X e t) (f : ∀ σ H Q, u σ H Q → t σ H Q) : PE X e u := ⟨fun pins s σ H Q I hw => h.run pins s σ H Q I (f σ H Q hw)⟩
theorem ptW {t u : TT} (h : PT X e t) (f : ∀ σ H Q, u σ H Q → t σ H Q) : PT X e u := ⟨fun pins s σ H Q I hw => h.run pins s σ H Q I (f σ H Q hw)⟩
theorem paW {t u : TA} (h : PA X es t) (f : ∀ σ H Q, u σ H Q → t σ H Q) : PA X es u := ⟨fun pos pins s σ H Q I hw => h.run pos pins s σ H Q I (f σ H Q hw)⟩
theorem psW {st : Stmt} {t u : TS} (h : PS X st t) (f : ∀ D σ H, u D σ H → t D σ H) : PS X st u := ⟨fun pins s σ H D I hw => h.run pins s σ H D I (f D σ H hw)⟩
theorem pssW {st : List Stmt} {t u : TS} (h : PSs X st t) (f : ∀ D σ H, u D σ H → t D σ H) : PSs X st u := ⟨fun pins s σ H D I hw => h.run pins s σ H D I (f D σ H hw)⟩
end

section
variable {W : Wd} {F F1 : Hp} {μ μ1 : List Addr} {S S1 : St} {σ σ1 : L2.St} {H H1 : Hp} {a : Addr} {d : D} {u : HO} {od : Obj}
/-- a thing of one's own, locked, is a tree -/
theorem Liv.dr (h : Liv W F μ H a d) (e : H a = some u) {F' : Hp} (hs : Sub F F') (q : F' a = some (.frz od u)) : DR W F' μ d (.ref a) := by
  cases d with
  | lst xs => obtain ⟨vs, q1, r⟩ := h; rw [e] at q1; cases q1; exact .lst (.inr ⟨od, q⟩) (r.mono hs fun _ _ z => z)
  | dct ks vs =>
    rcases h with ⟨kvs, q1, r⟩ | ⟨xs, q1, r⟩
    · rw [e] at q1; cases q1; exact .dk ⟨od, q⟩ (r.mono hs fun _ _ z => z)
    · rw [e] at q1; cases q1; exact .dn ⟨od, q⟩ (r.mono hs fun _ _ z => z)
  | _ => exact h.elim
theorem Liv.ne {b : Addr} {e' : D} {H' : Hp} (h : Liv W F μ H b e') (hs : Sub F F1) (hm : Pre μ μ1) (e : H' b = H b) : Liv W F1 μ1 H' b e' := h.mono hs hm e
/-- locking a thing that no slot and no object of Vi's holds -/
theorem Rel.lockTemp (R : Rel W F μ S σ H) (l : Liv W F μ H a d) (hm : a ∉ μ) (hf : F a = none) (ho : ¬ Own S σ a) (e : H a = some u) : Rel W (upd F a (.frz od u)) μ S σ (upd H a (.frz od u)) := by
  have hs : Sub F (upd F a (.frz od u)) := Sub.upd hf
  refine ⟨R.len, fun b v h => ?_, fun i d h => ?_, fun i d h => ?_, R.apart, R.hl, fun j d b h1 h2 => ?_, R.inj, R.tab.updF hs l.ntb⟩
  · by_cases hb : b = a
    · subst hb; rw [upd_same] at h ⊢; exact h
    · rw [upd_ne hb] at h ⊢; exact R.sub b v h
  · obtain ⟨v, h1, h2⟩ := R.sl i d h; exact ⟨v, h1, h2.mono hs fun _ _ z => z⟩
  · obtain ⟨b, h1, h2, h3, h4⟩ := R.ow i d h
    have hb : b ≠ a := fun z => ho ⟨i, d, h, by rw [← z]; exact h1⟩
    exact ⟨b, h1, h2.mono hs (fun _ _ z => z) (upd_ne hb), h3, by rw [upd_ne hb]; exact h4⟩
  · obtain ⟨h3, h4⟩ := R.hp j d b h1 h2
    have hb : b ≠ a := fun z => hm (z ▸ List.mem_of_getElem? h2)
    exact ⟨h3.mono hs (fun _ _ z => z) (upd_ne hb), by rw [upd_ne hb]; exact h4⟩
theorem Step.lockTemp (t : Step W F μ S σ H F1 μ1 S1 σ1 H1) (l : Liv W F1 μ1 H1 a d) (hm : a ∉ μ1) (hf : F1 a = none) (ho : ¬ Own S1 σ1 a) (e : H1 a = some u) (h0 : H a = none) :
    Step W F μ S σ H (upd F1 a (.frz od u)) μ1 S1 σ1 (upd H1 a (.frz od u)) := by
  refine ⟨t.sub.trans (Sub.upd hf), t.pre, t.rel.lockTemp l hm hf ho e, fun b v h1 nt h2 h3 => ?_, fun b h => ?_, t.own, t.fr, fun b h => ?_⟩
  · rw [upd_ne (fun z => by rw [z, h0] at h1; cases h1)]; exact t.keep b v h1 nt h2 h3
  · refine t.trk b ?_
    by_cases hb : b = a
    · rw [hb, upd_same] at h; cases h
    · rw [upd_ne hb] at h; exact h
  · by_cases hb : b = a
    · rw [hb]; exact .inr (.inl h0)
    · rw [upd_ne hb]; exact t.fnew b h
theorem setσ_len {l : List Sl} {i : Nat} {x : Sl} : (l.set i x).length = l.length := List.length_set
theorem get_set {α : Type} {l : List α} {i j : Nat} {x y : α} (h : (l.set i x)[j]? = some y) : (j = i ∧ y = x ∧ i < l.length) ∨ (j ≠ i ∧ l[j]? = some y) := by
  by_cases hj : i = j
  · subst hj
    rw [List.getElem?_set] at h
    simp only [if_true] at h
    split at h
    · cases h; exact .inl ⟨rfl, rfl, by assumption⟩
    · cases h
  · rw [List.getElem?_set_ne hj] at h; exact .inr ⟨fun z => hj z.symm, h⟩
/-- locking what the slot i holds alone -/
theorem Rel.lockSlot (R : Rel W F μ S σ H) {i : Nat} (h : S.σ[i]? = some (.o d)) (ha : σ[i]? = some (some (.ref a))) (e : H a = some u) :
    Step W F μ S σ H (upd F a (.frz od u)) μ { S with σ := S.σ.set i (.s d) } σ (upd H a (.frz od u)) ∧ Ne S { S with σ := S.σ.set i (.s d) } ∧ DR W (upd F a (.frz od u)) μ d (.ref a) := by
  obtain ⟨b, hb, l, hm, hf⟩ := R.ow i d h
  rw [ha] at hb; cases hb
  have hs : Sub F (upd F a (.frz od u)) := Sub.upd hf
  have dr : DR W (upd F a (.frz od u)) μ d (.ref a) := l.dr e hs upd_same
  refine ⟨⟨hs, fun _ _ z => z, ⟨by simpa using R.len, fun b v h => ?_, fun j d' h' => ?_, fun j d' h' => ?_, fun j k d' e' b h1 h2 h3 h4 => ?_, R.hl, fun j d' b h1 h2 => ?_, R.inj, R.tab.updF hs l.ntb⟩, fun b v h1 _ h2 h3 => ?_, fun b h => ?_, fun b h => ?_, fun b h => .inl h, fun b h' => ?_⟩, fun j hj => ?_, dr⟩
  · by_cases hb : b = a
    · subst hb; rw [upd_same] at h ⊢; exact h
    · rw [upd_ne hb] at h ⊢; exact R.sub b v h
  · rcases get_set h' with ⟨h1, h2, _⟩ | ⟨_, h2⟩
    · cases h2; subst h1; exact ⟨_, ha, dr⟩
    · obtain ⟨v, h1, h2⟩ := R.sl j d' h2; exact ⟨v, h1, h2.mono hs fun _ _ z => z⟩
  · rcases get_set h' with ⟨_, h2, _⟩ | ⟨hj, h2⟩
    · cases h2
    · obtain ⟨b, h1, h3, h4, h5⟩ := R.ow j d' h2
      have hb : b ≠ a := fun z => hj (R.apart j i d' d b h2 h h1 (z ▸ ha))
      exact ⟨b, h1, h3.mono hs (fun _ _ z => z) (upd_ne hb), h4, by rw [upd_ne hb]; exact h5⟩
  · rcases get_set h1 with ⟨_, q, _⟩ | ⟨_, h1⟩
    · cases q
    · rcases get_set h2 with ⟨_, q, _⟩ | ⟨_, h2⟩
      · cases q
      · exact R.apart j k d' e' b h1 h2 h3 h4
  · obtain ⟨h3, h4⟩ := R.hp j d' b h1 h2
    have hb : b ≠ a := fun z => hm (z ▸ List.mem_of_getElem? h2)
    exact ⟨h3.mono hs (fun _ _ z => z) (upd_ne hb), by rw [upd_ne hb]; exact h4⟩
  · have hb : b ≠ a := fun z => h3 ⟨i, d, h, z ▸ ha⟩
    rw [upd_ne hb]; exact h1
  · by_cases hb : b = a
    · rw [hb, upd_same] at h; cases h
    · rw [upd_ne hb] at h; exact h
  · obtain ⟨j, d', h1, h2⟩ := h
    rcases get_set h1 with ⟨_, q, _⟩ | ⟨_, h1⟩
    · cases q
    · exact .inl ⟨j, d', h1, h2⟩
  · by_cases hb : b = a
    · exact .inr (.inr (.inl ⟨i, d, h, hb ▸ ha⟩))
    · rw [upd_ne hb]; exact .inl h'
  · obtain ⟨d', hj⟩ := hj
    by_cases hij : j = i
    · subst hij
      exact ⟨d, .inl (by
        have : j < S.σ.length := (List.getElem?_eq_some_iff.mp h).1
        simp [this])⟩
    · exact ⟨d', by
        have e1 : (S.σ.set i (.s d))[j]? = S.σ[j]? := List.getElem?_set_ne (Ne.symm hij)
        simpa only [e1] using hj⟩
end

def RD (W : Wd) : RT D V := fun _ F μ _ _ _ d v => DR W F μ d v
def RDs (W : Wd) : RT (List D) (List V) := fun _ F μ _ _ _ d v => DRs W F μ d v
instance {W : Wd} : Bk (RD W) := ⟨fun h _ => h⟩
instance {W : Wd} : Bk (RDs W) := ⟨fun h _ => h⟩
abbrev tD (W : Wd) (E : XK) (m : M D) : TE := tG W E (RD W) m
abbrev tDs (W : Wd) (E : XK) (m : M (List D)) : TA := tG W E (RDs W) m
section
variable {W : Wd} {E : XK} {F : Hp} {μ : List Addr} {S : St} {σ : L2.St} {H : Hp} {X : Cx} {e : Expr} {es : List Expr} {pos : Pos}
theorem Post.esc {m : M O} {Q : V → Hp → Prop} (h : Post W E (RD W) (Vi.bind m Vi.esc) F μ S σ H Q) : Post W E (OR W) m F μ S σ H fun v H1 => Gz (Q v) H1 := by
  unfold Post Vi.bind at h
  unfold Post
  cases e : m S with
  | fail => rw [e] at h; exact h
  | exc c d S' => rw [e] at h; exact h
  | ok o S1 =>
    rw [e] at h
    intro F1 μ1 v H1 t n r
    cases o with
    | v d => exact .done (h F1 μ1 v H1 t n r)
    | w d =>
      obtain ⟨a, rfl, l, hm, hf, ho, h0⟩ := r
      obtain ⟨u, hu⟩ := Option.ne_none_iff_exists'.mp l.trk
      refine .step hu (by rw [← hu]; exact l.mut) fun od => .done (h _ μ1 _ _ (t.lockTemp l hm hf ho hu h0) n ?_)
      exact l.dr hu (Sub.upd hf) upd_same
    | «at» i =>
      obtain ⟨hv, d, hd⟩ := r
      rcases hd with hd | hd
      · simp only [Vi.esc, hd] at h
        obtain ⟨v', h1, h2⟩ := t.rel.sl i d hd
        rw [hv] at h1; cases h1
        exact .done (h F1 μ1 v H1 t n h2)
      · simp only [Vi.esc, hd] at h
        obtain ⟨a, h1, l, hm, hf⟩ := t.rel.ow i d hd
        rw [hv] at h1; cases h1
        obtain ⟨u, hu⟩ := Option.ne_none_iff_exists'.mp l.trk
        refine .step hu (by rw [← hu]; exact l.mut) fun od => .done ?_
        obtain ⟨t2, n2, dr⟩ := t.rel.lockSlot (od := od) hd hv hu
        exact h _ μ1 _ _ (t.trans t2) (n.trans n2) dr
theorem pe_esc {m : M O} (h : PE X e (tE W E m)) : PE X e (tD W E (bind m esc)) :=
  peW (peG h) fun σ H Q ⟨F, μ, S, R, p⟩ => ⟨F, μ, S, R, p.esc⟩
/-- the reading of an O where it stands -/
theorem OR.rd {H0 : Hp} {o : O} {v : V} (h : OR W H0 F μ S σ H o v) (R : Rel W F μ S σ H) {d : D} {S' : St} (e : rd o S = .ok d S') : S' = S ∧ (DR W F μ d v ∨ ∃ a, v = .ref a ∧ Liv W F μ H a d ∧ a ∉ μ ∧ F a = none) := by
  cases o with
  | v d' => cases e; exact ⟨rfl, .inl h⟩
  | w d' => cases e; obtain ⟨a, h1, h2, h3, h4, _⟩ := h; exact ⟨rfl, .inr ⟨a, h1, h2, h3, h4⟩⟩
  | «at» i =>
    obtain ⟨hv, d', hd⟩ := h
    rcases hd with hd | hd
    · simp only [Vi.rd, hd] at e; cases e
      obtain ⟨v', h1, h2⟩ := R.sl i _ hd
      rw [hv] at h1; cases h1
      exact ⟨rfl, .inl h2⟩
    · simp only [Vi.rd, hd] at e; cases e
      obtain ⟨a, h1, h2, h3, h4⟩ := R.ow i _ hd
      rw [hv] at h1; cases h1
      exact ⟨rfl, .inr ⟨a, rfl, h2, h3, h4⟩⟩
theorem rd_noexc {o : O} {c : Nat} {d : D} {S' : St} : rd o S ≠ .exc c d S' := by
  cases o with
  | v d' => intro h; cases h
  | w d' => intro h; cases h
  | «at» i =>
    intro h
    unfold Vi.rd at h
    simp only at h
    split at h <;> cases h
end
end Vi
/-! text Vs -/
set_option Elab.async false
set_option linter.all false
set_option maxRecDepth 100000
/-! Vi, the semantics: operations on trees, expressions, statements, calls. -/
namespace Vi
open PySem

def line : Nat := 16777216
/-! ### operators -/
inductive Op2 where
  | add | sub | mul | fdiv | mod | pow
  deriving DecidableEq
def addD : D → D → M O
  | .int i, .int j => ret (.v (.int (i + j)))
  | .str x, .str y => if x.length + y.length ≤ line then ret (.v (.str (x ++ y))) else fail
  | .tup xs, .tup ys => if xs.length + ys.length ≤ line then ret (.v (.tup (xs ++ ys))) else fail
  | .lst xs, .lst ys => if xs.length + ys.length ≤ line then ret (.w (.lst (xs ++ ys))) else fail
  | _, _ => fail
def subD : D → D → M O
  | .int i, .int j => ret (.v (.int (i - j)))
  | _, _ => fail
def rep (k : Nat) (xs : List D) : List D := (List.replicate k xs).flatten
def mulD : D → D → M O
  | .int i, .int j => if i.natAbs.log2 + j.natAbs.log2 < 1000000 then ret (.v (.int (i * j))) else fail
  | .tup xs, .int k => if xs ≠ [] ∧ 2 ≤ k ∧ k ≤ 1000 ∧ xs.length ≤ 1000 then ret (.v (.tup (rep k.toNat xs))) else fail
  | .lst xs, .int k => if 0 ≤ k ∧ k ≤ 1000 ∧ xs.length ≤ 1000 then ret (.w (.lst (rep k.toNat xs))) else fail
  | _, _ => fail
def fdivD : D → D → M O
  | .int i, .int j => if j ≠ 0 ∧ j.natAbs < 1073741824 then ret (.v (.int (i.fdiv j))) else fail
  | _, _ => fail
def modD : D → D → M O
  | .int i, .int j => if j ≠ 0 then ret (.v (.int (i.fmod j))) else fail
  | _, _ => fail
def powD : D → D → M O
  | .int i, .int j => if 0 ≤ j ∧ (Builtin.Int.intBits i : Int) * j ≤ 134217728 then ret (.v (.int (i ^ j.toNat))) else fail
  | _, _ => fail
def op2 : Op2 → D → D → M O
  | .add => addD | .sub => subD | .mul => mulD | .fdiv => fdivD | .mod => modD | .pow => powD
def negD : D → M O
  | .int i => ret (.v (.int (-i)))
  | _ => fail

/-! ### truth, comparisons -/
def truth : D → Option Bool
  | .non => some false
  | .bl b => some b
  | .int i => some (i != 0)
  | .str x => if x.length ≤ line then some ((x.length : Int) != 0) else none
  | .tup xs => some (!xs.isEmpty)
  | .lst xs => some (!xs.isEmpty)
  | _ => none
/-- the place of a key -/
def find (k : D → Bool) : List D → List D → Option D
  | a :: ks, v :: vs => if k a then some v else find k ks vs
  | _, _ => none
mutual
/-- two keys -/
def D.same : D → D → Bool
  | .non, .non => true
  | .int i, .int j => decide (i = j)
  | .str x, .str y => decide (x = y)
  | .tup xs, .tup ys => sames xs ys
  | _, _ => false
def sames : List D → List D → Bool
  | [], [] => true
  | x :: xs, y :: ys => D.same x y && sames xs ys
  | _, _ => false
end
mutual
/-- what may be a key, to the depth n of tuples -/
def D.keyable : D → Nat → Bool
  | .non, _ => true
  | .int _, _ => true
  | .str _, _ => true
  | .tup xs, n => match n with
    | 0 => false
    | n + 1 => keyables xs n
  | _, _ => false
def keyables : List D → Nat → Bool
  | [], _ => true
  | x :: xs, n => D.keyable x n && keyables xs n
end
/-- a dict's keys are all ints and texts, or all tuples -/
def isTup : D → Bool
  | .tup _ => true
  | _ => false
def isPlain : D → Bool
  | .int _ => true
  | .str _ => true
  | _ => false
def keyOk (ks : List D) (k : D) : Bool := match k with
  | .tup xs => keyables xs 7 && ks.all isTup
  | .int _ => ks.all isPlain
  | .str _ => ks.all isPlain
  | _ => false
def get (ks vs : List D) (k : D) : Option D := find (D.same k) ks vs
def put : List D → List D → D → D → List D × List D
  | a :: ks, b :: vs, k, v => if D.same k a then (a :: ks, v :: vs) else let r := put ks vs k v; (a :: r.1, b :: r.2)
  | _, _, k, v => ([k], [v])
def eqAll (f : D → D → Option Bool) (ks vs : List D) : List D → List D → Option Bool
  | a :: as, b :: bs => match get ks vs a with
    | some c => (match f b c, eqAll f ks vs as bs with
      | some e, some r => some (e && r)
      | _, _ => none)
    | none => some false
  | _, _ => some true
def eqP (d e : D) : Option Bool := match d.py, e.py with
  | some p, some q => if SeqAt.shaped p && SeqAt.shaped q then some (PyData.eqv p q) else none
  | _, _ => none
def eqD (d e : D) : Option Bool := match d, e with
  | .dct ks vs, .dct ls us => if ks.all (keyOk ls) && ls.all (keyOk ks) then (if ks.length = ls.length then eqAll eqP ls us ks vs else some false) else none
  | d, e => eqP d e
inductive Cm where
  | eq | ne | lt | le | gt | ge | is | isN | inn | ninn
  deriving DecidableEq
def cmpI (f : Int → Int → Bool) : D → D → M O
  | .int i, .int j => ret (.v (.bl (f i j)))
  | _, _ => fail
def occurs (x y : Str) : Bool := !(Builtin.Str.occurrences y x 0 y.length 1).isEmpty
def anyEq (d : PyData) (xs : List PyData) : Bool := xs.any fun z => PyData.eqv z d
def inD (d : D) : D → Option Bool
  | .lst xs => match d.py, D.pys xs with
    | some p, some q => if SeqAt.shaped p && SeqAt.shaped (.list q) then some (anyEq p q) else none
    | _, _ => none
  | .tup xs => match d.py, D.pys xs with
    | some p, some q => if SeqAt.shaped p && SeqAt.shaped (.list q) then some (anyEq p q) else none
    | _, _ => none
  | .dct ks vs => if keyOk ks d then some (get ks vs d).isSome else none
  | .str y => match d with
    | .str x => some (occurs x y)
    | _ => none
  | _ => none
def isD : D → D → Option Bool
  | .non, .non => some true
  | .bl a, .bl b => some (decide (a = b))
  | _, .non => some false
  | _, _ => none
def cmp : Cm → D → D → M O
  | .eq, d, e => bind (opt (eqD d e)) fun b => ret (.v (.bl b))
  | .ne, d, e => bind (opt (eqD d e)) fun b => ret (.v (.bl (!b)))
  | .lt, d, e => cmpI (fun i j => decide (i < j)) d e
  | .le, d, e => cmpI (fun i j => decide (i ≤ j)) d e
  | .gt, d, e => cmpI (fun i j => decide (j < i)) d e
  | .ge, d, e => cmpI (fun i j => decide (j ≤ i)) d e
  | .is, d, e => bind (opt (isD d e)) fun b => ret (.v (.bl b))
  | .isN, d, e => bind (opt (isD d e)) fun b => ret (.v (.bl (!b)))
  | .inn, d, e => bind (opt (inD d e)) fun b => ret (.v (.bl b))
  | .ninn, d, e => bind (opt (inD d e)) fun b => ret (.v (.bl (!b)))

/-! ### places, parts -/
def idxD : D → D → M O
  | .tup xs, .int i => bind (opt (L2.atI xs i)) fun d => ret (.v d)
  | .lst xs, .int i => bind (opt (L2.atI xs i)) fun d => ret (.v d)
  | .str x, .int i => if x.length ≤ line then bind (opt (L2.atI x.cps.toList i)) fun c => ret (.v (.str ⟨#[c]⟩)) else fail
  | .dct ks vs, k => if keyOk ks k then bind (opt (get ks vs k)) fun d => ret (.v d) else fail
  | _, _ => fail
def cut (xs : List D) (lo hi : Option Int) : List D := (xs.drop (HT.sIx xs.length 0 lo)).take (HT.sIx xs.length xs.length hi - HT.sIx xs.length 0 lo)
def slice (lo hi : Option Int) : D → M O
  | .tup xs => ret (.v (.tup (cut xs lo hi)))
  | .lst xs => ret (.w (.lst (cut xs lo hi)))
  | _ => fail
end Vi
/-! text Vi5 -/
set_option Elab.async false
set_option linter.all false
set_option maxRecDepth 100000
set_option maxHeartbeats 1000000
/-! Vi, part 5: operators. -/
namespace Vi
open PySem PySem.Spec PyProof.Rows L2

/-- read for now: for good, or one's own -/
def LR (W : Wd) (F : Hp) (μ : List Addr) (H : Hp) (d : D) (v : V) : Prop := DR W F μ d v ∨ ∃ a, v = .ref a ∧ Liv W F μ H a d
section
variable {W : Wd} {E : XK} {F F' : Hp} {μ : List Addr} {S : St} {σ : L2.St} {H H' : Hp} {X : Cx} {v : V}
theorem LR.int {i : Int} (h : LR W F μ H (.int i) v) : v = .int i := by
  rcases h with h | ⟨a, _, l⟩
  · cases h; rfl
  · exact l.elim
theorem LR.bl {b : Bool} (h : LR W F μ H (.bl b) v) : v = .bl b := by
  rcases h with h | ⟨a, _, l⟩
  · cases h; rfl
  · exact l.elim
theorem LR.str {x : Str} (h : LR W F μ H (.str x) v) : v = .str x := by
  rcases h with h | ⟨a, _, l⟩
  · cases h; rfl
  · exact l.elim
theorem LR.non (h : LR W F μ H .non v) : v = .non := by
  rcases h with h | ⟨a, _, l⟩
  · cases h; rfl
  · exact l.elim
theorem LR.tup {xs : List D} (h : LR W F μ H (.tup xs) v) (R : Sub F H) : ∃ a vs, v = .ref a ∧ SqT W.K H a vs ∧ SqT W.K F a vs ∧ DRs W F μ xs vs := by
  rcases h with h | ⟨a, _, l⟩
  · cases h with
    | tup h1 h2 => exact ⟨_, _, rfl, R.t h1, h1, h2⟩
  · exact l.elim
theorem LR.lst {xs : List D} (h : LR W F μ H (.lst xs) v) (R : Sub F H) : ∃ a vs, v = .ref a ∧ Rd H a (.lst vs) ∧ DRs W F μ xs vs := by
  rcases h with h | ⟨a, rfl, vs, h1, h2⟩
  · cases h with
    | lst h1 h2 => exact ⟨_, _, rfl, R.rd h1, h2⟩
  · exact ⟨_, _, rfl, .inl h1, h2⟩
theorem LR.dct {ks us : List D} (h : LR W F μ H (.dct ks us) v) (R : Sub F H) : ∃ a, v = .ref a ∧ ((∃ kvs, Rd H a (.dK kvs) ∧ DRk W F μ ks us kvs) ∨ ∃ xs, Rd H a (ND W.P W.w a xs) ∧ DRn W F μ ks us xs) := by
  rcases h with h | ⟨a, rfl, l⟩
  · cases h with
    | dk h1 h2 => exact ⟨_, rfl, .inl ⟨_, .inr (R.fz h1), h2⟩⟩
    | dn h1 h2 => exact ⟨_, rfl, .inr ⟨_, .inr (R.fz h1), h2⟩⟩
  · rcases l with ⟨kvs, h1, h2⟩ | ⟨xs, h1, h2⟩
    · exact ⟨a, rfl, .inl ⟨kvs, .inl h1, h2⟩⟩
    · exact ⟨a, rfl, .inr ⟨xs, .inl h1, h2⟩⟩
theorem LR.dp {d : D} {p : PyData} (h : LR W F μ H d v) (R : Sub F H) (e : d.py = some p) : Dp W.K H v p := by
  rcases h with h | ⟨a, rfl, l⟩
  · exact (DR.mono R (fun _ _ z => z) h : DR W H μ d v).dp e
  · cases d with
    | lst xs =>
      obtain ⟨vs, h1, h2⟩ := l
      simp only [D.py] at e
      cases h : D.pys xs with
      | none => rw [h] at e; cases e
      | some ps => rw [h] at e; cases e; exact .lst (.inl (.inl h1)) ((DRs.mono R (fun _ _ z => z) h2 : DRs W H μ xs vs).dp h)
    | dct ks us => simp [D.py] at e
    | _ => exact l.elim

/-- a new thing that no one knew -/
theorem Rel.new (R : Rel W F μ S σ H) {p : Addr} {o : HO} (hp : H p = none) : Rel W F μ S σ (upd H p o) := by
  refine ⟨R.len, R.sub.trans (Sub.upd hp), R.sl, fun i d h => ?_, R.apart, R.hl, fun j d a h1 h2 => ?_, R.inj, R.tab.new hp⟩
  · obtain ⟨a, h1, h2, h3, h4⟩ := R.ow i d h
    exact ⟨a, h1, h2.mono (Sub.refl F) (fun _ _ z => z) (upd_ne fun z => h2.trk (z ▸ hp)), h3, h4⟩
  · obtain ⟨h3, h4⟩ := R.hp j d a h1 h2
    exact ⟨h3.mono (Sub.refl F) (fun _ _ z => z) (upd_ne fun z => h3.trk (z ▸ hp)), h4⟩
theorem Rel.noF (R : Rel W F μ S σ H) {p : Addr} (hp : H p = none) : F p = none := by
  cases e : F p with
  | none => rfl
  | some u => rw [R.sub p u e] at hp; cases hp
theorem Step.new (R : Rel W F μ S σ H) {p : Addr} {o : HO} (hp : H p = none) : Step W F μ S σ H F μ S σ (upd H p o) :=
  ⟨Sub.refl F, fun _ _ z => z, R.new hp, fun a u h _ _ _ => by rw [upd_ne (fun z => by rw [z, hp] at h; cases h)]; exact h,
   fun a h => by
    by_cases ha : a = p
    · rw [ha]; exact hp
    · rw [upd_ne ha] at h; exact h, fun _ h => .inl h, fun _ h => .inl h, fun _ h => .inl h⟩
/-- .. known for good from now on -/
theorem Step.newF (R : Rel W F μ S σ H) {p : Addr} {o : HO} (hp : H p = none) : Step W F μ S σ H (upd F p o) μ S σ (upd H p o) := by
  have hs : Sub F (upd F p o) := Sub.upd (R.noF hp)
  have t := Step.new R (o := o) hp
  refine ⟨hs, fun _ _ z => z, ⟨R.len, fun a u h => ?_, fun i d h => ?_, fun i d h => ?_, R.apart, R.hl, fun j d a h1 h2 => ?_, R.inj, R.tab.newF hs hp⟩, t.keep, t.trk, t.own, t.fr, fun a h => ?_⟩
  · by_cases ha : a = p
    · subst ha; rw [upd_same] at h ⊢; exact h
    · rw [upd_ne ha] at h ⊢; exact R.sub a u h
  · obtain ⟨w, h1, h2⟩ := R.sl i d h; exact ⟨w, h1, h2.mono hs fun _ _ z => z⟩
  · obtain ⟨a, h1, h2, h3, h4⟩ := R.ow i d h
    have ha : a ≠ p := fun z => h2.trk (z ▸ hp)
    exact ⟨a, h1, h2.mono hs (fun _ _ z => z) (upd_ne ha), h3, by rw [upd_ne ha]; exact h4⟩
  · obtain ⟨h3, h4⟩ := R.hp j d a h1 h2
    have ha : a ≠ p := fun z => h3.trk (z ▸ hp)
    exact ⟨h3.mono hs (fun _ _ z => z) (upd_ne ha), by rw [upd_ne ha]; exact h4⟩
  · by_cases ha : a = p
    · rw [ha]; exact .inr (.inl hp)
    · rw [upd_ne ha]; exact .inl h
variable {Q : V → Hp → Prop}
/-- Vi hands on a value -/
theorem Post.retV {d : D} (h : Post W E (OR W) (Vi.ret (.v d)) F μ S σ H Q) (R : Rel W F μ S σ H) (r : DR W F μ d v) : Q v H := Post.ret h R (b := v) r
theorem Post.newL {xs : List D} {vs : List V} {p : Addr} (h : Post W E (OR W) (Vi.ret (.w (.lst xs))) F μ S σ H Q) (R : Rel W F μ S σ H) (r : DRs W F μ xs vs) (hp : H p = none) : Q (.ref p) (upd H p (.lst vs)) := by
  refine h F μ _ _ (Step.new R hp) (Ne.refl S) ⟨p, rfl, ⟨vs, upd_same, r⟩, fun z => R.muTrk z hp, R.noF hp, fun z => R.ownTrk z hp, hp⟩
theorem Post.newT {xs : List D} {vs : List V} {p : Addr} (h : Post W E (OR W) (Vi.ret (.v (.tup xs))) F μ S σ H Q) (R : Rel W F μ S σ H) (r : DRs W F μ xs vs) (hp : H p = none) : Q (.ref p) (upd H p (.tup vs)) := by
  have t := Step.newF R (o := .tup vs) hp
  exact h _ μ _ _ t (Ne.refl S) (.tup (.inl (.inl upd_same)) (r.mono t.sub fun _ _ z => z))
theorem Post.opt {α β γ : Type} {Rγ : RT γ β} {o : Option α} {k : α → M γ} {Q : β → Hp → Prop} (h : Post W E Rγ (Vi.bind (Vi.opt o) k) F μ S σ H Q) : ∃ a, o = some a ∧ Post W E Rγ (k a) F μ S σ H Q := by
  cases o with
  | none => exact h.elim
  | some a => exact ⟨a, rfl, h⟩
theorem Post.rd {γ β : Type} {Rγ : RT γ β} {H0 : Hp} {o : O} {k : D → M γ} {Q : β → Hp → Prop} (h : Post W E Rγ (Vi.bind (Vi.rd o) k) F μ S σ H Q) (R : Rel W F μ S σ H) (r : OR W H0 F μ S σ H o v) :
    ∃ d, LR W F μ H d v ∧ Post W E Rγ (k d) F μ S σ H Q := by
  unfold Post Vi.bind at h
  cases e : Vi.rd o S with
  | fail => rw [e] at h; exact h.elim
  | exc c d S' => exact absurd e rd_noexc
  | ok d S' =>
    rw [e] at h
    obtain ⟨e1, e2⟩ := OR.rd r R e
    subst e1
    exact ⟨d, e2.elim .inl fun ⟨a, h1, h2, _⟩ => .inr ⟨a, h1, h2⟩, h⟩
theorem Post.deref {γ β : Type} {Rγ : RT γ β} {d : D} {k : D → M γ} {Q : β → Hp → Prop} (h : Post W E Rγ (Vi.bind (Vi.deref d) k) F μ S σ H Q) (R : Rel W F μ S σ H) (r : LR W F μ H d v) :
    ∃ d', LR W F μ H d' v ∧ Post W E Rγ (k d') F μ S σ H Q := by
  cases d with
  | ref j =>
    unfold Post Vi.bind Vi.deref at h
    simp only at h
    cases e : S.h[j]? with
    | none => rw [e] at h; exact h.elim
    | some d' =>
      rw [e] at h
      rcases r with r | ⟨a, _, l⟩
      · cases r with
        | ref hj => exact ⟨d', .inr ⟨_, rfl, (R.hp j d' _ e hj).1⟩, h⟩
      · exact l.elim
  | _ => exact ⟨_, r, h⟩
theorem Post.rdh {γ β : Type} {Rγ : RT γ β} {H0 : Hp} {o : O} {k : D → M γ} {Q : β → Hp → Prop} (h : Post W E Rγ (Vi.bind (Vi.rdh o) k) F μ S σ H Q) (R : Rel W F μ S σ H) (r : OR W H0 F μ S σ H o v) :
    ∃ d, LR W F μ H d v ∧ Post W E Rγ (k d) F μ S σ H Q := by
  have h' : Post W E Rγ (Vi.bind (Vi.rd o) fun d => Vi.bind (Vi.deref d) k) F μ S σ H Q := by
    have e : Vi.bind (Vi.rdh o) k = Vi.bind (Vi.rd o) fun d => Vi.bind (Vi.deref d) k := by
      funext s
      show Vi.bind (Vi.bind (Vi.rd o) Vi.deref) k s = _
      unfold Vi.bind
      cases Vi.rd o s <;> rfl
    rw [← e]; exact h
  obtain ⟨d, h1, h2⟩ := Post.rd h' R r
  exact Post.deref h2 R h1
theorem Post.mono {α β : Type} {Rα : RT α β} {m : M α} {Q Q' : β → Hp → Prop} (h : Post W E Rα m F μ S σ H Q) (f : ∀ b H', Q b H' → Q' b H') : Post W E Rα m F μ S σ H Q' := by
  unfold Post at h ⊢
  cases e : m S with
  | fail => rw [e] at h; exact h
  | exc c d S' => rw [e] at h; exact h
  | ok a S' => rw [e] at h; exact fun F' μ' b H' t n r => f b H' (h F' μ' b H' t n r)
/-- two expressions, then an operation upon their values -/
theorem opBin {r : R2} {ma mb : M O} {k : D → D → M O}
    (hk : ∀ {F μ S σ H Q d e u v}, Rel W F μ S σ H → LR W F μ H d u → LR W F μ H e v → Post W E (OR W) (k d e) F μ S σ H Q → r u v H Q) {σ : L2.St} {H : Hp} {Q : VK}
    (h : tE W E (bind ma fun x => bind mb fun y => bind (rdh x) fun d => bind (rdh y) fun e => k d e) σ H Q) : tOp r (tE W E ma) (tE W E mb) σ H Q := by
  obtain ⟨F, μ, S, R, p⟩ := h
  refine ⟨F, μ, S, R, (Post.bind p).mono fun u H1 ⟨x, F1, μ1, S1, r1, t1, n1, p1⟩ => ⟨F1, μ1, S1, t1.rel, (Post.bind p1).mono fun v H2 ⟨y, F2, μ2, S2, r2, t2, n2, p2⟩ => ?_⟩⟩
  obtain ⟨d, h1, p3⟩ := Post.rdh p2 t2.rel (r1.step t2 n2)
  obtain ⟨e, h2, p4⟩ := Post.rdh p3 t2.rel r2
  exact hk t2.rel h1 h2 p4
end
end Vi
/-! text Vi6 -/
set_option Elab.async false
set_option linter.all false
set_option maxRecDepth 100000
set_option maxHeartbeats 1000000
/-! Vi, part 6: the operators' rules. -/
namespace Vi
open PySem PySem.Spec PyProof.Rows L2
section
variable {X : Cx} {pins : List (Addr × Obj)} {σ : L2.St} {H : Hp} {s : Shared} {l : Addr} {xs : List V}
/-- a list, locked or not, as it stands -/
theorem Inv.rdL (I : Inv X pins σ H s) (h : Rd H l (.lst xs)) : xs.length ≤ sizeLine ∧ ∃ (its : List Value) (n : Nat), Vals xs its ∧ xs.length = its.length ∧ s.heap.get? l = some { cls := .type "list", data := .seq its.toArray n } := by
  obtain ⟨z, its, n, r, e⟩ := (show ObjOk X.prog X.w H s.heap l (.lst xs) from h.ok I.hok)
  exact ⟨z, its, n, r, Vals.length r, e⟩
def rCatR : R2 := fun x y H Q => ∃ l b xs zs, x = .ref l ∧ y = .ref b ∧ Rd H l (.lst xs) ∧ Rd H b (.lst zs) ∧ xs.length + zs.length ≤ sizeLine ∧ ∀ p, H p = none → Q (.ref p) (upd H p (.lst (xs ++ zs)))
theorem op_catR : OpR X (binaryOp .Add) rCatR := by
  intro pins s σ H x y v u Q I rx ry h
  obtain ⟨l, b, xs, zs, rfl, rfl, h1, h2, hz, q⟩ := h
  cases rx; cases ry
  obtain ⟨_, i1, n1, r1, l1, e1⟩ := Inv.rdL I h1
  obtain ⟨_, i2, n2, r2, l2, e2⟩ := Inv.rdL I h2
  refine PySem.P.add_list e1 e2 ?_ (by simp only [List.size_toArray]; omega)
  have ea : i1.toArray ++ i2.toArray = (i1 ++ i2).toArray := by simp
  rw [ea]
  exact ⟨.ref _, _, I.lnew (t' := s.toks) (Vals.append r1 r2) (by simp only [List.length_append]; omega), rfl, q _ I.fresh⟩
/-- xs * k, 0 ≤ k -/
def rRepR : R2 := fun x y H Q => ∃ l k xs, x = .ref l ∧ y = .int k ∧ Rd H l (.lst xs) ∧ 0 ≤ k ∧ k ≤ 1000 ∧ xs.length ≤ 1000 ∧ ∀ p, H p = none → Q (.ref p) (upd H p (.lst (List.replicate k.toNat xs).flatten))
theorem op_repR : OpR X (binaryOp .Mult) rRepR := by
  intro pins s σ H x y v u Q I rx ry h
  obtain ⟨l, k, xs, rfl, rfl, hH, h1, h2, hz, q⟩ := h
  cases rx
  obtain ⟨t, rfl⟩ := ry
  obtain ⟨z, its, n, r, hl, e⟩ := Inv.rdL I hH
  have bnd : xs.length * k.toNat ≤ 1000 * 1000 := Nat.mul_le_mul hz (by omega)
  have hsl : sizeLine = 16777216 := sizeLine_eq
  have sz : its.toArray.size * k.toNat ≤ 1000 * 1000 := by simp only [List.size_toArray]; rw [← hl]; exact bnd
  have a1 : ¬ its.toArray.size * k.toNat > (2 ^ 63 - 1) / 8 := fun w => absurd (Nat.lt_of_lt_of_le w sz) (by decide)
  have a2 : ¬ (!Builtin.List.listFitsIndex k) = true := by rw [fitsIndex_both (by omega) (by omega)]; simp
  have a3 : ¬ Builtin.List.listTooLong (its.toArray.size * k.toNat) = true := by rw [notLongL (by omega)]; simp
  have a4 : List.foldl (fun x1 x2 => x1 ++ x2) #[] (List.replicate (if its.toArray.isEmpty = true then 0 else k.toNat) its.toArray) = (List.replicate k.toNat its).flatten.toArray := by
    have f := foldl_rep its k.toNat []
    rw [List.nil_append] at f
    cases its with
    | nil =>
      have f2 := foldl_rep ([] : List Value) 0 []
      simp only [List.nil_append] at f2
      simp only [List.isEmpty_toArray, List.isEmpty_nil, if_true]
      rw [show (#[] : Array Value) = ([] : List Value).toArray from rfl, f2]
      simp
    | cons c r' => rw [if_neg (by simp)]; exact f
  refine wpAny_binaryOp_repeat_ref (T := "list") (U := "int") (by decide) ⟨_, e, rfl⟩ (fun s' => typeIs_int s' k t) noFill_list_mul F.fills_int_mul F.slot_int_rmul repeat_list F.slot_int_index.lookup ?_
  refine call_meets F.slot_int_rmul (typeIs_int s k t) F.entry_int_rmul (F.args_int_rmul_2 _ _) (int___rmul___int_list k t l its.toArray n) ⟨e, rfl, ⟨_, e, rfl⟩, ?_⟩
  refine call_meets F.slot_list_mul ⟨_, e, rfl⟩ F.entry_list_mul (F.args_list_mul_2 _ _) (AutoListH.list___mul___list_int_3 l its.toArray n k t a2 a1 a3) ⟨e, ?_⟩
  rw [a4]
  have hlen : (List.replicate k.toNat xs).flatten.length ≤ sizeLine := by
    rw [PyProof.Rows.lm_len_rep_flat, Nat.mul_comm]; omega
  exact ⟨.ref _, _, I.lnew (t' := s.toks) (Vals.rep r k.toNat) hlen, rfl, q _ I.fresh⟩
def CPowW (i j : Int) : Prop := 0 ≤ j ∧ (Builtin.Int.intBits i : Int) * j ≤ 2 ^ 27
theorem op_powW : OpR X (binaryOp .Pow) (rI CPowW fun i j => .int (i ^ j.toNat)) := opI fun _ _ _ _ _ _ _ hc q => pow_int hc.1 hc.2 q
abbrev rAddA (K : PySem.W.Frag) : R2 := fun x y H Q => rI0 (fun i j => .int (i + j)) x y H Q ∨ (∃ i j, x = .str i ∧ y = .str j ∧ i.length + j.length ≤ sizeLine ∧ Q (.str (i ++ j)) H) ∨ rCatA K x y H Q ∨ rCatR x y H Q
theorem op_addA : OpR X (binaryOp .Add) (rAddA X.K) := op_add.or (op_add_str.or (op_catA.or op_catR))
abbrev rMulA (K : PySem.W.Frag) : R2 := fun x y H Q => rI CMulW (fun i j => .int (i * j)) x y H Q ∨ rRepT K x y H Q ∨ rRepR x y H Q
theorem op_mulA : OpR X (binaryOp .Mult) (rMulA X.K) := op_mulW.or (op_repT.or op_repR)
end

section
variable {W : Wd} {E : XK} {F : Hp} {μ : List Addr} {S : St} {σ : L2.St} {H : Hp} {Q : VK} {d e : D} {u v : V}
theorem line_eq : line = sizeLine := rfl
theorem DRs.rep {xs : List D} {vs : List V} (h : DRs W F μ xs vs) : ∀ k : Nat, DRs W F μ (rep k xs) (List.replicate k vs).flatten
  | 0 => by simpa [Vi.rep] using .nil
  | k + 1 => by
    have := h.append (DRs.rep h k)
    simpa [Vi.rep, List.replicate_succ] using this
theorem k_add (R : Rel W F μ S σ H) (h1 : LR W F μ H d u) (h2 : LR W F μ H e v) (p : Post W E (OR W) (addD d e) F μ S σ H Q) : rAddA W.K u v H Q := by
  unfold addD at p
  split at p
  · exact .inl ⟨_, _, h1.int, h2.int, Post.retV p R (.int _)⟩
  · split at p
    · exact .inr (.inl ⟨_, _, h1.str, h2.str, by assumption, Post.retV p R (.str _)⟩)
    · exact (Post.fail p).elim
  · rename_i xs ys
    split at p
    · rename_i hl
      obtain ⟨a, vs, rfl, s1, f1, r1⟩ := h1.tup R.sub
      obtain ⟨b, us, rfl, s2, f2, r2⟩ := h2.tup R.sub
      refine .inr (.inr (.inl ⟨a, b, vs, us, rfl, rfl, s1, s2, by rw [← r1.length, ← r2.length]; exact hl, fun z => ?_, fun z0 z => ?_, fun z1 z2 q hq => ?_⟩))
      · subst z
        cases r1
        exact Post.retV p R (.tup f2 r2)
      · subst z
        cases r2
        rw [List.append_nil] at p
        exact Post.retV p R (.tup f1 r1)
      · exact Post.newT p R (r1.append r2) hq
    · exact (Post.fail p).elim
  · rename_i xs ys
    split at p
    · rename_i hl
      obtain ⟨a, vs, rfl, s1, r1⟩ := h1.lst R.sub
      obtain ⟨b, us, rfl, s2, r2⟩ := h2.lst R.sub
      exact .inr (.inr (.inr ⟨a, b, vs, us, rfl, rfl, s1, s2, by rw [← r1.length, ← r2.length]; exact hl, fun q hq => Post.newL p R (r1.append r2) hq⟩))
    · exact (Post.fail p).elim
  · exact (Post.fail p).elim
theorem k_sub (R : Rel W F μ S σ H) (h1 : LR W F μ H d u) (h2 : LR W F μ H e v) (p : Post W E (OR W) (subD d e) F μ S σ H Q) : rI0 (fun i j => .int (i - j)) u v H Q := by
  unfold subD at p
  split at p
  · exact ⟨_, _, h1.int, h2.int, Post.retV p R (.int _)⟩
  · exact (Post.fail p).elim
theorem k_mul (R : Rel W F μ S σ H) (h1 : LR W F μ H d u) (h2 : LR W F μ H e v) (p : Post W E (OR W) (mulD d e) F μ S σ H Q) : rMulA W.K u v H Q := by
  unfold mulD at p
  split at p
  · split at p
    · exact .inl ⟨_, _, h1.int, h2.int, by assumption, Post.retV p R (.int _)⟩
    · exact (Post.fail p).elim
  · rename_i xs k
    split at p
    · rename_i hc
      obtain ⟨c1, c2, c3, c4⟩ := hc
      obtain ⟨a, vs, rfl, s1, f1, r1⟩ := h1.tup R.sub
      refine .inr (.inl ⟨a, k, vs, rfl, h2.int, s1, fun z => c1 ?_, c2, c3, by rw [← r1.length]; exact c4, fun q hq => Post.newT p R (r1.rep _) hq⟩)
      subst z; cases r1; rfl
    · exact (Post.fail p).elim
  · rename_i xs k
    split at p
    · rename_i hc
      obtain ⟨c2, c3, c4⟩ := hc
      obtain ⟨a, vs, rfl, s1, r1⟩ := h1.lst R.sub
      exact .inr (.inr ⟨a, k, vs, rfl, h2.int, s1, c2, c3, by rw [← r1.length]; exact c4, fun q hq => Post.newL p R (r1.rep _) hq⟩)
    · exact (Post.fail p).elim
  · exact (Post.fail p).elim
theorem k_fdiv (R : Rel W F μ S σ H) (h1 : LR W F μ H d u) (h2 : LR W F μ H e v) (p : Post W E (OR W) (fdivD d e) F μ S σ H Q) : rI CDivN (fun i j => .int (i.fdiv j)) u v H Q := by
  unfold fdivD at p
  split at p
  · split at p
    · exact ⟨_, _, h1.int, h2.int, by assumption, Post.retV p R (.int _)⟩
    · exact (Post.fail p).elim
  · exact (Post.fail p).elim
theorem k_mod (R : Rel W F μ S σ H) (h1 : LR W F μ H d u) (h2 : LR W F μ H e v) (p : Post W E (OR W) (modD d e) F μ S σ H Q) : rI (fun _ j => j ≠ 0) (fun i j => .int (i.fmod j)) u v H Q := by
  unfold modD at p
  split at p
  · split at p
    · exact ⟨_, _, h1.int, h2.int, by assumption, Post.retV p R (.int _)⟩
    · exact (Post.fail p).elim
  · exact (Post.fail p).elim
theorem k_pow (R : Rel W F μ S σ H) (h1 : LR W F μ H d u) (h2 : LR W F μ H e v) (p : Post W E (OR W) (powD d e) F μ S σ H Q) : rI CPowW (fun i j => .int (i ^ j.toNat)) u v H Q := by
  unfold powD at p
  split at p
  · split at p
    · rename_i hc
      exact ⟨_, _, h1.int, h2.int, ⟨hc.1, hc.2⟩, Post.retV p R (.int _)⟩
    · exact (Post.fail p).elim
  · exact (Post.fail p).elim
end
def Op2.py : Op2 → Operator
  | .add => .Add | .sub => .Sub | .mul => .Mult | .fdiv => .FloorDiv | .mod => .Mod | .pow => .Pow
/-- Vi's world in a context -/
abbrev wd (X : Cx) (C : Cc) : Wd := ⟨X.prog, X.w, X.K, C⟩
theorem se_bin {X : Cx} {C : Cc} {E : XK} {a b : Expr} {ma mb : M O} {pos : Pos} (op : Op2) (ha : PE X a (tE (wd X C) E ma)) (hb : PE X b (tE (wd X C) E mb)) :
    PE X (.BinOp a op.py b pos) (tE (wd X C) E (bind ma fun x => bind mb fun y => bind (rdh x) fun d => bind (rdh y) fun e => op2 op d e)) := by
  cases op with
  | add => exact peW (pe_op op_addA ha hb) fun _ _ _ h => opBin (fun R h1 h2 p => k_add R h1 h2 p) h
  | sub => exact peW (pe_op op_sub ha hb) fun _ _ _ h => opBin (fun R h1 h2 p => k_sub R h1 h2 p) h
  | mul => exact peW (pe_op op_mulA ha hb) fun _ _ _ h => opBin (fun R h1 h2 p => k_mul R h1 h2 p) h
  | fdiv => exact peW (pe_op op_fdivN ha hb) fun _ _ _ h => opBin (fun R h1 h2 p => k_fdiv R h1 h2 p) h
  | mod => exact peW (pe_op op_modN ha hb) fun _ _ _ h => opBin (fun R h1 h2 p => k_mod R h1 h2 p) h
  | pow => exact peW (pe_op op_powW ha hb) fun _ _ _ h => opBin (fun R h1 h2 p => k_pow R h1 h2 p) h
end Vi
/-! text Vi7 -/
set_option Elab.async false
set_option linter.all false
set_option maxRecDepth 100000
set_option maxHeartbeats 1000000
/-! Vi, part 7: keys, comparisons. -/
namespace Vi
open PySem PySem.Spec PyProof.Rows L2

/-! ### keys -/
mutual
theorem same_nk : ∀ {a b : D} {x y : NestedKey}, a.nk = some x → b.nk = some y → D.same a b = decide (x = y)
  | .non, b, x, y, h1, h2 => by
    simp only [D.nk] at h1; cases h1
    cases b with
    | non => simp only [D.nk] at h2; cases h2; simp [D.same]
    | int i => simp only [D.nk] at h2; cases h2; simp [D.same]
    | str i => simp only [D.nk] at h2; cases h2; simp [D.same]
    | tup ys =>
      simp only [D.nk] at h2
      cases e : D.nks ys with
      | none => rw [e] at h2; cases h2
      | some ks => rw [e] at h2; cases h2; simp [D.same]
    | _ => simp [D.nk] at h2
  | .int i, b, x, y, h1, h2 => by
    simp only [D.nk] at h1; cases h1
    cases b with
    | non => simp only [D.nk] at h2; cases h2; simp [D.same]
    | int j => simp only [D.nk] at h2; cases h2; simp [D.same]
    | str j => simp only [D.nk] at h2; cases h2; simp [D.same]
    | tup ys =>
      simp only [D.nk] at h2
      cases e : D.nks ys with
      | none => rw [e] at h2; cases h2
      | some ks => rw [e] at h2; cases h2; simp [D.same]
    | _ => simp [D.nk] at h2
  | .str i, b, x, y, h1, h2 => by
    simp only [D.nk] at h1; cases h1
    cases b with
    | non => simp only [D.nk] at h2; cases h2; simp [D.same]
    | int j => simp only [D.nk] at h2; cases h2; simp [D.same]
    | str j => simp only [D.nk] at h2; cases h2; simp [D.same]
    | tup ys =>
      simp only [D.nk] at h2
      cases e : D.nks ys with
      | none => rw [e] at h2; cases h2
      | some ks => rw [e] at h2; cases h2; simp [D.same]
    | _ => simp [D.nk] at h2
  | .tup xs, b, x, y, h1, h2 => by
    simp only [D.nk] at h1
    cases e1 : D.nks xs with
    | none => rw [e1] at h1; cases h1
    | some js =>
      rw [e1] at h1; cases h1
      cases b with
      | non => simp only [D.nk] at h2; cases h2; simp [D.same]
      | int j => simp only [D.nk] at h2; cases h2; simp [D.same]
      | str j => simp only [D.nk] at h2; cases h2; simp [D.same]
      | tup ys =>
        simp only [D.nk] at h2
        cases e : D.nks ys with
        | none => rw [e] at h2; cases h2
        | some ks =>
          rw [e] at h2; cases h2
          have q := sames_nk e1 e
          show sames xs ys = _
          rw [q]
          by_cases z : js = ks
          · rw [z]; simp
          · rw [decide_eq_false z, decide_eq_false (fun w => z (NestedKey.tup.inj w))]
      | _ => simp [D.nk] at h2
  | .bl _, _, _, _, h1, _ => by simp [D.nk] at h1
  | .lst _, _, _, _, h1, _ => by simp [D.nk] at h1
  | .dct _ _, _, _, _, h1, _ => by simp [D.nk] at h1
  | .ref _, _, _, _, h1, _ => by simp [D.nk] at h1
  | .cls _, _, _, _, h1, _ => by simp [D.nk] at h1
  | .ty _, _, _, _, h1, _ => by simp [D.nk] at h1
  | .obj _, _, _, _, h1, _ => by simp [D.nk] at h1
  | .exc _ _, _, _, _, h1, _ => by simp [D.nk] at h1
theorem sames_nk : ∀ {a b : List D} {x y : List NestedKey}, D.nks a = some x → D.nks b = some y → sames a b = decide (x = y)
  | [], [], x, y, h1, h2 => by simp only [D.nks] at h1 h2; cases h1; cases h2; simp [sames]
  | [], b :: bs, x, y, h1, h2 => by
    simp only [D.nks] at h1 h2; cases h1
    split at h2
    · split at h2
      · cases h2; simp [sames]
      · cases h2
    · cases h2
  | a :: as, [], x, y, h1, h2 => by
    simp only [D.nks] at h1 h2; cases h2
    split at h1
    · split at h1
      · cases h1; simp [sames]
      · cases h1
    · cases h1
  | a :: as, b :: bs, x, y, h1, h2 => by
    simp only [D.nks] at h1 h2
    split at h1
    · rename_i k1 e1
      split at h1
      · rename_i ks1 f1
        cases h1
        split at h2
        · rename_i k2 e2
          split at h2
          · rename_i ks2 f2
            cases h2
            simp only [sames, same_nk e1 e2, sames_nk f1 f2, ← Bool.decide_and]
            exact decide_eq_decide.mpr (by rw [List.cons.injEq])
          · cases h2
        · cases h2
      · cases h1
    · cases h1
end
theorem same_key {a b : D} {x y : Key} (h1 : a.key = some x) (h2 : b.key = some y) : D.same a b = decide (x = y) := by
  cases a with
  | int i =>
    cases h1
    cases b with
    | int j => cases h2; show decide (i = j) = _; exact decide_eq_decide.mpr ⟨fun h => by rw [h], fun h => Sum.inl.inj h⟩
    | str j => cases h2; simp [D.same]
    | _ => cases h2
  | str i =>
    cases h1
    cases b with
    | int j => cases h2; simp [D.same]
    | str j => cases h2; show decide (i = j) = _; exact decide_eq_decide.mpr ⟨fun h => by rw [h], fun h => Sum.inr.inj h⟩
    | _ => cases h2
  | _ => cases h1
mutual
theorem nk_of : ∀ {d : D} {n : Nat}, D.keyable d n = true → ∃ k, d.nk = some k ∧ k.depth ≤ n
  | .non, _, _ => ⟨_, rfl, Nat.zero_le _⟩
  | .int _, _, _ => ⟨_, rfl, Nat.zero_le _⟩
  | .str _, _, _ => ⟨_, rfl, Nat.zero_le _⟩
  | .tup xs, 0, h => by simp [D.keyable] at h
  | .tup xs, n + 1, h => by
    have h' : keyables xs n = true := by simpa [D.keyable] using h
    obtain ⟨ks, e, hd⟩ := nks_of h'
    exact ⟨.tup ks, by simp only [D.nk, e]; rfl, by simp only [NestedKey.depth]; omega⟩
  | .bl _, _, h => by simp [D.keyable] at h
  | .lst _, _, h => by simp [D.keyable] at h
  | .dct _ _, _, h => by simp [D.keyable] at h
  | .ref _, _, h => by simp [D.keyable] at h
  | .cls _, _, h => by simp [D.keyable] at h
  | .ty _, _, h => by simp [D.keyable] at h
  | .obj _, _, h => by simp [D.keyable] at h
  | .exc _ _, _, h => by simp [D.keyable] at h
theorem nks_of : ∀ {d : List D} {n : Nat}, keyables d n = true → ∃ k, D.nks d = some k ∧ NestedKey.depthAll k ≤ n
  | [], _, _ => ⟨[], rfl, Nat.zero_le _⟩
  | x :: xs, n, h => by
    have h' : D.keyable x n = true ∧ keyables xs n = true := by simpa [keyables] using h
    obtain ⟨k, e1, d1⟩ := nk_of h'.1
    obtain ⟨ks, e2, d2⟩ := nks_of h'.2
    exact ⟨k :: ks, by simp only [D.nks, e1, e2], by simp only [NestedKey.depthAll]; omega⟩
end
section
variable {X : Cx} {C : Cc} {pins : List (Addr × Obj)} {σ : L2.St} {H F : Hp} {μ : List Addr} {s : Shared} {a : Addr} {ks us : List D} {xs : NX}
mutual
/-- a tree that may be a key lies as a key -/
theorem DR.isKey (I : Inv X pins σ H s) (hs : Sub F H) : ∀ {d : D} {v : V} {u : Value} {k : NestedKey}, DR (wd X C) F μ d v → RelV v u → d.nk = some k → NestedIs s.heap k u
  | _, _, _, _, .non, r, e => by simp only [D.nk] at e; cases e; cases r; exact .none
  | _, _, _, _, .int i, r, e => by simp only [D.nk] at e; cases e; obtain ⟨t, rfl⟩ := r; exact .int i t
  | _, _, _, _, .str x, r, e => by simp only [D.nk] at e; cases e; obtain ⟨t, rfl⟩ := r; exact .text x t
  | _, _, _, _, .tup (xs := xs) h1 h2, r, e => by
    simp only [D.nk] at e
    cases q : D.nks xs with
    | none => rw [q] at e; cases e
    | some ks =>
      rw [q] at e; cases e; cases r
      obtain ⟨its, rv, ⟨o, ho, hc, n, hd⟩, _⟩ := I.tuple (hs.t h1)
      refine .tup ho hc hd ?_
      simpa using DRs.areKeys I hs h2 rv q
  | _, _, _, _, .bl _, _, e => by simp [D.nk] at e
  | _, _, _, _, .lst _ _, _, e => by simp [D.nk] at e
  | _, _, _, _, .dk _ _, _, e => by simp [D.nk] at e
  | _, _, _, _, .dn _ _, _, e => by simp [D.nk] at e
  | _, _, _, _, .ref _, _, e => by simp [D.nk] at e
  | _, _, _, _, .cls _, _, e => by simp [D.nk] at e
  | _, _, _, _, .exc _ _ _, _, e => by simp [D.nk] at e
  | _, _, _, _, .ty _, _, e => by simp [D.nk] at e
  | _, _, _, _, .obj _, _, e => by simp [D.nk] at e
theorem DRs.areKeys (I : Inv X pins σ H s) (hs : Sub F H) : ∀ {d : List D} {v : List V} {u : List Value} {k : List NestedKey}, DRs (wd X C) F μ d v → Vals v u → D.nks d = some k → NestedAll s.heap k u
  | _, _, _, _, .nil, r, e => by simp only [D.nks] at e; cases e; cases r; exact .nil
  | _, _, _, _, .cons (d := d) (ds := ds) h1 h2, r, e => by
    simp only [D.nks] at e
    split at e
    · rename_i k q
      split at e
      · rename_i ks q2
        cases e
        cases r with
        | cons r1 r2 => exact .cons (DR.isKey I hs h1 r1 q) (DRs.areKeys I hs h2 r2 q2)
      · cases e
    · cases e
end
theorem DRn.are (I : Inv X pins σ H s) (hs : Sub F H) : ∀ {ks us : List D} {xs : NX}, DRn (wd X C) F μ ks us xs → (∀ x ∈ xs, x.1.depth ≤ 8) → ∀ x ∈ xs, (nestedKind X.prog X.w).is s.heap x.1 x.2.1
  | _, _, _, .nil, _, x, hx => nomatch hx
  | _, _, _, .cons e h1 _ _ t, hd, x, hx => by
    rcases List.mem_cons.mp hx with z | hx'
    · subst z
      exact ⟨DR.isKey I hs h1 rfl e, hd _ hx⟩
    · exact DRn.are I hs t (fun y hy => hd y (List.mem_cons_of_mem _ hy)) x hx'
/-- a dict of tuple keys as it stands -/
theorem Inv.rdN (I : Inv X pins σ H s) (hs : Sub F H) (h : Rd H a (ND X.prog X.w a xs)) (r : DRn (wd X C) F μ ks us xs) : (a == sysModules) = false ∧ xs.length ≤ sizeLine ∧ s.heap.DictOfH (nestedKind X.prog X.w) a xs ∧ ∀ x ∈ xs, x.1.depth ≤ 8 := by
  obtain ⟨⟨h1, h2, h3, o, es, ep, e1, e2, e3, e4, e5⟩, _⟩ := (show ObjOk X.prog X.w H s.heap a (ND X.prog X.w a xs) from h.ok I.hok)
  exact ⟨h1, h2, ⟨o, es, ep, e1, e2, e3, e4, DRn.are I hs r h3, e5⟩, h3⟩
end
section
variable {W : Wd} {F : Hp} {μ : List Addr} {ks us : List D} {xs : NX} {k : D} {kvs : List (Key × V)}
theorem find_get {p : D → Bool} : ∀ {ks us : List D} {q : D → Bool}, (∀ a ∈ ks, p a = q a) → find p ks us = find q ks us
  | [], _, _, _ => rfl
  | _ :: _, [], _, _ => rfl
  | a :: ks, u :: us, q, h => by
    simp only [find, h a List.mem_cons_self]
    rw [find_get fun b hb => h b (List.mem_cons_of_mem _ hb)]
theorem DRn.get {key : NestedKey} (hk : k.nk = some key) : ∀ {ks us : List D} {xs : NX}, DRn W F μ ks us xs → (Vi.get ks us k = none ∧ atKey xs key = none) ∨ ∃ d b u v, Vi.get ks us k = some d ∧ atKey xs key = some (b, u) ∧ RelV v u ∧ DR W F μ d v
  | _, _, _, .nil => .inl ⟨rfl, rfl⟩
  | _, _, _, .cons (k := k') (d := d) (ks := ks) (ds := ds) (key := key') (b := b) (v := v) (u := u) (xs := xs) e h1 rv h2 t => by
    have ih := DRn.get hk t
    have q := same_nk hk e
    by_cases z : key = key'
    · rw [decide_eq_true z] at q
      refine .inr ⟨d, b, u, v, ?_, ?_, rv, h2⟩
      · show (if D.same k k' = true then some d else find (D.same k) ks ds) = some d
        rw [q]; rfl
      · simp [atKey, z]
    · rw [decide_eq_false z] at q
      have e1 : Vi.get (k' :: ks) (d :: ds) k = Vi.get ks ds k := by
        show (if D.same k k' = true then some d else find (D.same k) ks ds) = find (D.same k) ks ds
        rw [q]; rfl
      have e2 : atKey ((key', b, u) :: xs) key = atKey xs key := by
        have w : ¬ key' = key := fun w => z w.symm
        simp [atKey, List.find?_cons, w]
      rw [e1, e2]
      exact ih
theorem DRk.get {key : Key} (hk : k.key = some key) : ∀ {ks us : List D} {kvs : List (Key × V)}, DRk W F μ ks us kvs → (Vi.get ks us k = none ∧ valV kvs key = none) ∨ ∃ d v, Vi.get ks us k = some d ∧ valV kvs key = some v ∧ DR W F μ d v
  | _, _, _, .nil => .inl ⟨rfl, rfl⟩
  | _, _, _, .cons (k := k') (d := d) (ks := ks) (ds := ds) (key := key') (v := v) (kvs := kvs) e h2 t => by
    have ih := DRk.get hk t
    have q := same_key hk e
    by_cases z : key = key'
    · rw [decide_eq_true z] at q
      refine .inr ⟨d, v, ?_, valV_pos z.symm, h2⟩
      show (if D.same k k' = true then some d else find (D.same k) ks ds) = some d
      rw [q]; rfl
    · rw [decide_eq_false z] at q
      have e1 : Vi.get (k' :: ks) (d :: ds) k = Vi.get ks ds k := by
        show (if D.same k k' = true then some d else find (D.same k) ks ds) = find (D.same k) ks ds
        rw [q]; rfl
      rw [e1, valV_neg (fun w => z w.symm)]
      exact ih
/-- what a key says of the dict's kind -/
theorem DRk.plain : ∀ {ks us : List D} {kvs : List (Key × V)}, DRk W F μ ks us kvs → ks.all isPlain = true
  | _, _, _, .nil => rfl
  | _, _, _, .cons (k := k) e _ t => by
    have ih := DRk.plain t
    simp only [List.all_cons, ih, Bool.and_true]
    cases k with
    | int i => rfl
    | str x => rfl
    | _ => cases e
theorem DRn.tups : ∀ {ks us : List D} {xs : NX}, DRn W F μ ks us xs → ks.all isTup = true
  | _, _, _, .nil => rfl
  | _, _, _, .cons (k := k) e h _ _ t => by
    have ih := DRn.tups t
    simp only [List.all_cons, ih, Bool.and_true]
    cases h with
    | tup _ _ => rfl
    | _ => simp [D.nk] at e
theorem keyOk_case (h : keyOk ks k = true) : (∃ key, k.key = some key ∧ ks.all isPlain = true) ∨ ∃ ys key, k = .tup ys ∧ k.nk = some key ∧ key.depth ≤ 8 ∧ ks.all isTup = true := by
  cases k with
  | int i => exact .inl ⟨_, rfl, h⟩
  | str x => exact .inl ⟨_, rfl, h⟩
  | tup ys =>
    obtain ⟨h1, h2⟩ := Bool.and_eq_true_iff.mp (show (keyables ys 7 && ks.all isTup) = true from h)
    obtain ⟨js, e, hd⟩ := nks_of h1
    exact .inr ⟨ys, .tup js, rfl, by simp only [D.nk, e]; rfl, by simp only [NestedKey.depth]; omega, h2⟩
  | _ => cases h
theorem nil_of_both (h1 : ks.all isPlain = true) (h2 : ks.all isTup = true) : ks = [] := by
  cases ks with
  | nil => rfl
  | cons k r =>
    have a := (List.all_eq_true.mp h1) k List.mem_cons_self
    have b := (List.all_eq_true.mp h2) k List.mem_cons_self
    cases k <;> simp [isPlain, isTup] at a b
end
/-! ### a dict as it stands, an empty one of either kind -/
def KD (X : Cx) (H : Hp) (a : Addr) (kvs : List (Key × V)) : Prop := Rd H a (.dK kvs) ∨ (kvs = [] ∧ Rd H a (ND X.prog X.w a []))
def NDx (X : Cx) (H : Hp) (a : Addr) (xs : NX) : Prop := Rd H a (ND X.prog X.w a xs) ∨ (xs = [] ∧ Rd H a (.dK []))
section
variable {X : Cx} {C : Cc} {pins : List (Addr × Obj)} {σ : L2.St} {H F : Hp} {μ : List Addr} {s : Shared} {a : Addr} {ks us : List D} {xs : NX} {kvs : List (Key × V)} {v : V}
theorem Inv.rdK (I : Inv X pins σ H s) (h : KD X H a kvs) : (a == sysModules) = false ∧ kvs.length ≤ sizeLine ∧ ∃ vs, KV kvs vs ∧ s.heap.DictOf (mixKind X.prog X.w) a vs := by
  rcases h with h | ⟨rfl, h⟩
  · obtain ⟨h1, h2, h3⟩ := dk_rd I.hok h
    exact ⟨h2, h1, h3⟩
  · obtain ⟨⟨h1, h2, _, o, es, ep, e1, e2, e3, e4, _⟩, _⟩ := (show ObjOk X.prog X.w H s.heap a (ND X.prog X.w a []) from h.ok I.hok)
    have ez : es = #[] := by simpa using e4
    subst ez
    exact ⟨h1, Nat.zero_le _, [], .nil, o, #[], ep, e1, e2, e3, fun _ he => by simp at he, Pairs.nil, List.nodup_nil⟩
theorem Inv.rdX (I : Inv X pins σ H s) (hs : Sub F H) (h : NDx X H a xs) (r : DRn (wd X C) F μ ks us xs) : (a == sysModules) = false ∧ xs.length ≤ sizeLine ∧ s.heap.DictOfH (nestedKind X.prog X.w) a xs ∧ ∀ x ∈ xs, x.1.depth ≤ 8 := by
  rcases h with h | ⟨rfl, h⟩
  · exact Inv.rdN I hs h r
  · obtain ⟨_, h2, vs, kv, o, es, ep, e1, e2, e3, e4, e5, _⟩ := dk_rd I.hok h
    have ez : es = #[] := by
      cases kv
      have q := e5.length
      simpa using q
    subst ez
    exact ⟨h2, Nat.zero_le _, ⟨o, #[], ep, e1, e2, e3, rfl, fun x hx => absurd hx (by simp), List.nodup_nil⟩, fun x hx => absurd hx (by simp)⟩
theorem LR.dctK (h : LR (wd X C) F μ H (.dct ks us) v) (R : Sub F H) (hp : ks.all isPlain = true) : ∃ a kvs, v = .ref a ∧ KD X H a kvs ∧ DRk (wd X C) F μ ks us kvs := by
  obtain ⟨a, rfl, hx⟩ := LR.dct h R
  rcases hx with ⟨kvs, hR, r⟩ | ⟨xs, hR, r⟩
  · exact ⟨a, kvs, rfl, .inl hR, r⟩
  · have e := nil_of_both hp r.tups
    subst e
    cases r
    exact ⟨a, [], rfl, .inr ⟨rfl, hR⟩, .nil⟩
theorem LR.dctN (h : LR (wd X C) F μ H (.dct ks us) v) (R : Sub F H) (hp : ks.all isTup = true) : ∃ a xs, v = .ref a ∧ NDx X H a xs ∧ DRn (wd X C) F μ ks us xs := by
  obtain ⟨a, rfl, hx⟩ := LR.dct h R
  rcases hx with ⟨kvs, hR, r⟩ | ⟨xs, hR, r⟩
  · have e := nil_of_both r.plain hp
    subst e
    cases r
    exact ⟨a, [], rfl, .inr ⟨rfl, hR⟩, .nil⟩
  · exact ⟨a, xs, rfl, .inl hR, r⟩
/-- whichever it is -/
theorem LR.dctE (h : LR (wd X C) F μ H (.dct ks us) v) (R : Sub F H) : (∃ a kvs, v = .ref a ∧ KD X H a kvs ∧ DRk (wd X C) F μ ks us kvs) ∨ ∃ a xs, v = .ref a ∧ NDx X H a xs ∧ DRn (wd X C) F μ ks us xs := by
  obtain ⟨a, rfl, hx⟩ := LR.dct h R
  rcases hx with ⟨kvs, hR, r⟩ | ⟨xs, hR, r⟩
  · exact .inl ⟨a, kvs, rfl, .inl hR, r⟩
  · exact .inr ⟨a, xs, rfl, .inl hR, r⟩
end
end Vi
/-! text Vi8 -/
set_option Elab.async false
set_option linter.all false
set_option maxRecDepth 100000
set_option maxHeartbeats 1000000
/-! Vi, part 8: comparisons. -/
namespace Vi
open PySem PySem.Spec PyProof.Rows L2
section
variable {X : Cx}
/-- x in t, x not in t: t a tuple of any data -/
def rInT (K : PySem.W.Frag) (neg : Bool) : R2 := fun x y H Q => ∃ d ds, Dp K H x d ∧ Dp K H y (.tuple ds) ∧ SeqAt.shaped d = true ∧ SeqAt.shaped (.list ds) = true ∧ Q (.bl (if neg then !ds.any fun z => PyData.eqv z d else ds.any fun z => PyData.eqv z d)) H
theorem op_inT (hu : X.A.units + 65 < cLine) : OpR X (compareOp .In) (rInT X.K false) := by
  intro pins s σ H x y v u Q I rx ry h
  obtain ⟨d, ds, hd, he, sd, se, q⟩ := h
  obtain ⟨as, r1⟩ := Dp.reads I d x v hd rx
  obtain ⟨bs, r2⟩ := Dp.reads I (.tuple ds) y u he ry
  exact SeqAt.in_tuple_reads r2 r1 (SeqAt.canLay_of_shaped se) (SeqAt.canLay_of_shaped sd) (room_in_shaped sd hu) ⟨.bl _, H, I, rfl, q⟩
theorem op_ninT (hu : X.A.units + 65 < cLine) : OpR X (compareOp .NotIn) (rInT X.K true) := by
  intro pins s σ H x y v u Q I rx ry h
  obtain ⟨d, ds, hd, he, sd, se, q⟩ := h
  obtain ⟨as, r1⟩ := Dp.reads I d x v hd rx
  obtain ⟨bs, r2⟩ := Dp.reads I (.tuple ds) y u he ry
  exact SeqAt.notIn_tuple_reads r2 r1 (SeqAt.canLay_of_shaped se) (SeqAt.canLay_of_shaped sd) (room_in_shaped sd hu) ⟨.bl _, H, I, rfl, q⟩
/-- k in d, by what the dict holds -/
def rInK (X : Cx) (neg : Bool) : R2 := fun x y H Q => ∃ a kvs k, y = .ref a ∧ KD X H a kvs ∧ x = kV k ∧ Q (.bl (if neg then !(valV kvs k).isSome else (valV kvs k).isSome)) H
theorem op_inK (hu : X.A.units + 1 < cLine) : OpR X (compareOp .In) (rInK X false) := by
  intro pins s σ H x y v u Q I rx ry h
  obtain ⟨a, kvs, k, rfl, hR, rfl, q⟩ := h
  cases ry
  obtain ⟨hd, _, vs, rel, dd⟩ := Inv.rdK I hR
  refine wpAny_in_of (kV_is rx) hd dd.mapOf ?_
  rw [← (rel.val k).isSome_eq]
  exact ⟨.bl _, H, I.tok _, rfl, q⟩
theorem op_ninK (hu : X.A.units + 1 < cLine) : OpR X (compareOp .NotIn) (rInK X true) := by
  intro pins s σ H x y v u Q I rx ry h
  obtain ⟨a, kvs, k, rfl, hR, rfl, q⟩ := h
  cases ry
  obtain ⟨hd, _, vs, rel, dd⟩ := Inv.rdK I hR
  refine wpAny_notIn_of (kV_is rx) hd dd.mapOf ?_
  rw [← (rel.val k).isSome_eq]
  exact ⟨.bl _, H, I.tok _, rfl, q⟩
/-- .. a tuple in a dict of tuples -/
def rInN (X : Cx) (C : Cc) (neg : Bool) : R2 := fun x y H Q => ∃ a b F μ k key ks us xs, y = .ref a ∧ x = .ref b ∧ Sub F H ∧ DR (wd X C) F μ k (.ref b) ∧ k.nk = some key ∧ key.depth ≤ 8 ∧ NDx X H a xs ∧ DRn (wd X C) F μ ks us xs ∧
  Q (.bl (if neg then !(atKey xs key).isSome else (atKey xs key).isSome)) H
theorem op_inN {C : Cc} (hu : X.A.units + 65 < cLine) : OpR X (compareOp .In) (rInN X C false) := by
  intro pins s σ H x y v u Q I rx ry h
  obtain ⟨a, b, F, μ, k, key, ks, us, xs, rfl, rfl, hs, dr, hk, hd, hR, rn, q⟩ := h
  cases rx; cases ry
  obtain ⟨h1, _, h2, _⟩ := Inv.rdX I hs hR rn
  have room : (nestedKind X.prog X.w).room X.A.in1 := by show X.A.units + 1 + 8 < cLine; omega
  exact wpAny_in_heap room ⟨DR.isKey I hs dr rfl hk, hd⟩ h1 h2 ⟨.bl _, H, I.tok _, rfl, q⟩
theorem op_ninN {C : Cc} (hu : X.A.units + 65 < cLine) : OpR X (compareOp .NotIn) (rInN X C true) := by
  intro pins s σ H x y v u Q I rx ry h
  obtain ⟨a, b, F, μ, k, key, ks, us, xs, rfl, rfl, hs, dr, hk, hd, hR, rn, q⟩ := h
  cases rx; cases ry
  obtain ⟨h1, _, h2, _⟩ := Inv.rdX I hs hR rn
  have room : (nestedKind X.prog X.w).room X.A.in1 := by show X.A.units + 1 + 8 < cLine; omega
  exact wpAny_notIn_heap room ⟨DR.isKey I hs dr rfl hk, hd⟩ h1 h2 ⟨.bl _, H, I.tok _, rfl, q⟩
/-- a key of ints, texts asked of an empty dict of tuples is not there: it is an empty dict; told by rInK's road only where the dict is a dK -/
theorem kV_of {k : D} {key : Key} {W : Wd} {F H : Hp} {μ : List Addr} {v : V} (e : k.key = some key) (h : LR W F μ H k v) : v = kV key := by
  cases k with
  | int i => cases e; exact h.int
  | str x => cases e; exact h.str
  | _ => cases e
end
section
variable {X : Cx} {C : Cc} {E : XK} {F : Hp} {μ : List Addr} {S : St} {σ : L2.St} {H : Hp} {Q : VK} {d e : D} {u v : V}
theorem shaped_both {a b : PyData} (h : (SeqAt.shaped a && SeqAt.shaped b) = true) : SeqAt.shaped a = true ∧ SeqAt.shaped b = true := Bool.and_eq_true_iff.mp h
theorem eqP_some {b : Bool} (h : eqP d e = some b) : ∃ p q, d.py = some p ∧ e.py = some q ∧ SeqAt.shaped p = true ∧ SeqAt.shaped q = true ∧ b = PyData.eqv p q := by
  unfold eqP at h
  split at h
  · rename_i p q h1 h2
    split at h
    · rename_i hs
      cases h
      exact ⟨p, q, h1, h2, (shaped_both hs).1, (shaped_both hs).2, rfl⟩
    · cases h
  · cases h
theorem k_eqP (neg : Bool) {b : Bool} (R : Rel (wd X C) F μ S σ H) (h1 : LR (wd X C) F μ H d u) (h2 : LR (wd X C) F μ H e v) (hb : eqP d e = some b) (q : Q (.bl (if neg then !b else b)) H) :
    ∃ p r, Dp X.K H u p ∧ Dp X.K H v r ∧ SeqAt.shaped p = true ∧ SeqAt.shaped r = true ∧ Q (.bl (if neg then !PyData.eqv p r else PyData.eqv p r)) H := by
  obtain ⟨p, r, e1, e2, s1, s2, rfl⟩ := eqP_some hb
  exact ⟨p, r, h1.dp R.sub e1, h2.dp R.sub e2, s1, s2, q⟩
theorem k_cmpI {f : Int → Int → Bool} (R : Rel (wd X C) F μ S σ H) (h1 : LR (wd X C) F μ H d u) (h2 : LR (wd X C) F μ H e v) (p : Post (wd X C) E (OR (wd X C)) (cmpI f d e) F μ S σ H Q) : rI0 (fun i j => .bl (f i j)) u v H Q := by
  unfold cmpI at p
  split at p
  · exact ⟨_, _, h1.int, h2.int, Post.retV p R (.bl _)⟩
  · exact (Post.fail p).elim
/-- is None, is not None; is of two truth values -/
def rIsA (neg : Bool) : R2 := fun x y H Q => (y = .non ∧ Q (.bl (if neg then !decide (x = .non) else decide (x = .non))) H) ∨ ∃ a b : Bool, x = .bl a ∧ y = .bl b ∧ Q (.bl (if neg then !decide (a = b) else decide (a = b))) H
theorem op_isA : OpR X (compareOp .Is) (rIsA false) := op_isN.or op_isBl
theorem op_isnA : OpR X (compareOp .IsNot) (rIsA true) := op_notN.or op_notBl
theorem LR.ne_non (h : LR (wd X C) F μ H d u) (hd : d ≠ .non) : u ≠ .non := by
  intro z; subst z
  rcases h with h | ⟨a, h, _⟩
  · cases h; exact hd rfl
  · cases h
theorem k_is (neg : Bool) {b : Bool} (R : Rel (wd X C) F μ S σ H) (h1 : LR (wd X C) F μ H d u) (h2 : LR (wd X C) F μ H e v) (hb : isD d e = some b) (q : Q (.bl (if neg then !b else b)) H) : rIsA neg u v H Q := by
  unfold isD at hb
  split at hb
  · cases hb
    refine .inl ⟨h2.non, ?_⟩
    rw [decide_eq_true h1.non]; exact q
  · cases hb
    exact .inr ⟨_, _, h1.bl, h2.bl, q⟩
  · rename_i hd
    cases hb
    refine .inl ⟨h2.non, ?_⟩
    rw [decide_eq_false (LR.ne_non h1 fun z => by subst z; exact hd rfl)]; exact q
  · cases hb
abbrev rInA (X : Cx) (C : Cc) : R2 := fun x y H Q => rInD X.K x y H Q ∨ rInT X.K false x y H Q ∨ rInK X false x y H Q ∨ rInN X C false x y H Q ∨ ∃ i j, x = .str i ∧ y = .str j ∧ Q (.bl (!(Builtin.Str.occurrences j i 0 j.length 1).isEmpty)) H
abbrev rNinA (X : Cx) (C : Cc) : R2 := fun x y H Q => rNotInD X.K x y H Q ∨ rInT X.K true x y H Q ∨ rInK X true x y H Q ∨ rInN X C true x y H Q ∨ ∃ i j, x = .str i ∧ y = .str j ∧ Q (.bl (!(!(Builtin.Str.occurrences j i 0 j.length 1).isEmpty))) H
theorem op_inA (hu : X.A.units + 65 < cLine) : OpR X (compareOp .In) (rInA X C) := (op_inD hu).or ((op_inT hu).or ((op_inK (by omega)).or ((op_inN hu).or op_in_str)))
theorem op_ninA (hu : X.A.units + 65 < cLine) : OpR X (compareOp .NotIn) (rNinA X C) := (op_notInD hu).or ((op_ninT hu).or ((op_ninK (by omega)).or ((op_ninN hu).or op_notin_str)))
theorem pys_dp {xs : List D} {vs : List V} {ps : List PyData} {W : Wd} {G : Hp} (h : DRs W G μ xs vs) (hs : Sub G H) (e : D.pys xs = some ps) : DpAll W.K H vs ps := (DRs.mono hs (fun _ _ z => z) h : DRs W H μ xs vs).dp e
/-- which of the five it is -/
theorem k_in {b : Bool} (R : Rel (wd X C) F μ S σ H) (h1 : LR (wd X C) F μ H d u) (h2 : LR (wd X C) F μ H e v) (hb : inD d e = some b) :
    (∃ p ds, Dp X.K H u p ∧ Dp X.K H v (.list ds) ∧ SeqAt.shaped p = true ∧ SeqAt.shaped (.list ds) = true ∧ b = ds.any fun z => PyData.eqv z p) ∨
    (∃ p ds, Dp X.K H u p ∧ Dp X.K H v (.tuple ds) ∧ SeqAt.shaped p = true ∧ SeqAt.shaped (.list ds) = true ∧ b = ds.any fun z => PyData.eqv z p) ∨
    (∃ a kvs k, v = .ref a ∧ KD X H a kvs ∧ u = kV k ∧ b = (valV kvs k).isSome) ∨
    (∃ a b' F μ k key ks us xs, v = .ref a ∧ u = .ref b' ∧ Sub F H ∧ DR (wd X C) F μ k (.ref b') ∧ k.nk = some key ∧ key.depth ≤ 8 ∧ NDx X H a xs ∧ DRn (wd X C) F μ ks us xs ∧ b = (atKey xs key).isSome) ∨
    ∃ i j, u = .str i ∧ v = .str j ∧ b = !(Builtin.Str.occurrences j i 0 j.length 1).isEmpty := by
  unfold inD at hb
  split at hb
  · split at hb
    · rename_i p q e1 e2
      split at hb
      · rename_i hs
        cases hb
        obtain ⟨a, vs, rfl, s1, r1⟩ := h2.lst R.sub
        exact .inl ⟨p, q, h1.dp R.sub e1, .lst (.inl s1) (pys_dp r1 R.sub e2), (shaped_both hs).1, (shaped_both hs).2, rfl⟩
      · cases hb
    · cases hb
  · split at hb
    · rename_i p q e1 e2
      split at hb
      · rename_i hs
        cases hb
        obtain ⟨a, vs, rfl, s1, _, r1⟩ := h2.tup R.sub
        exact .inr (.inl ⟨p, q, h1.dp R.sub e1, .tup s1 (pys_dp r1 R.sub e2), (shaped_both hs).1, (shaped_both hs).2, rfl⟩)
      · cases hb
    · cases hb
  · split at hb
    · rename_i ks us hk
      cases hb
      rcases keyOk_case hk with ⟨key, ek, hp⟩ | ⟨ys, key, rfl, ek, hd, hp⟩
      · obtain ⟨a, kvs, rfl, hR, r⟩ := LR.dctK h2 R.sub hp
        refine .inr (.inr (.inl ⟨a, kvs, key, rfl, hR, kV_of ek h1, ?_⟩))
        rcases DRk.get ek r with ⟨g1, g2⟩ | ⟨_, _, g1, g2, _⟩ <;> rw [g1, g2] <;> rfl
      · obtain ⟨a, xs, rfl, hR, r⟩ := LR.dctN h2 R.sub hp
        obtain ⟨b, vs, rfl, _, f1, r1⟩ := h1.tup R.sub
        refine .inr (.inr (.inr (.inl ⟨a, b, F, μ, .tup ys, key, ks, us, xs, rfl, rfl, R.sub, .tup f1 r1, ek, hd, hR, r, ?_⟩)))
        rcases DRn.get ek r with ⟨g1, g2⟩ | ⟨_, _, _, _, g1, g2, _⟩ <;> rw [g1, g2] <;> rfl
    · cases hb
  · split at hb
    · cases hb
      exact .inr (.inr (.inr (.inr ⟨_, _, h1.str, h2.str, rfl⟩)))
    · cases hb
  · cases hb
end
end Vi
/-! text Vi9 -/
set_option Elab.async false
set_option linter.all false
set_option maxRecDepth 100000
set_option maxHeartbeats 1000000
/-! Vi, part 9: == of dicts. -/
namespace Vi
open PySem PySem.Spec PyProof.Rows L2
section
variable {P : Program} {w : World} {A : Around} {s : Shared}
/-- what == of two dicts of tuple keys meets -/
inductive Hits (P : Program) (w : World) (A : Around) (s : Shared) (kb : NX) : NX → Bool → Prop
  | nil : Hits P w A s kb [] true
  | miss {x : NestedKey × Addr × Value} {r : NX} : atKey kb x.1 = none → Hits P w A s kb (x :: r) false
  | hit {x : NestedKey × Addr × Value} {c : Addr} {y : Value} {r : NX} {e b : Bool} : atKey kb x.1 = some (c, y) → SeqAt.EqP P w A s x.2.2 y e → Hits P w A s kb r b → Hits P w A s kb (x :: r) (e && b)
theorem atKey_none {kb : NX} {k : NestedKey} (h : atKey kb k = none) (j : Nat) (p : Addr × Value) : kb[j]? ≠ some (k, p) := fun e => by
  unfold atKey at h
  rw [Option.map_eq_none_iff, List.find?_eq_none] at h
  exact h (k, p) (List.mem_of_getElem? e) (by simp)
theorem same_heap {E : Value → Shared → Prop} {nm : String} {a b : Addr} {xa xb : NX} {r : Bool} {Q : Bool → Shared → Prop} (hu : (nestedKind P w).room A) (ha : (a == sysModules) = false) (hb : (b == sysModules) = false)
    (da : s.heap.DictOfH (nestedKind P w) a xa) (db : s.heap.DictOfH (nestedKind P w) b xb) (hits : xa.length = xb.length → Hits P w A s xb xa r) (h : Q (xa.length == xb.length && r) s) :
    wpAny (model P w) A (Builtin.Dict.samePairs nm a b) Q E s := by
  obtain ⟨oa, es, ep, go, _, gd, ge, gi, gn⟩ := da
  obtain ⟨ob, fs, fp, ko, _, kd, ke, ki, kn⟩ := db
  have la : es.size = xa.length := size_of_entries ge
  have lb : fs.size = xb.length := size_of_entries ke
  unfold Builtin.Dict.samePairs Builtin.Dict.showsAll
  rw [if_neg (by rw [ha]; simp), if_neg (by rw [hb]; simp)]
  refine wpAny_bind (wpAny_pure (wpAny_bind (wpAny_pure (wpAny_bind (wpAny_dictEntries go gd ?_)))))
  dsimp only
  refine wpAny_bind (wpAny_dictEntries ko kd ?_)
  by_cases hz : es.size = fs.size
  · have hits' := hits (by rw [← la, ← lb]; exact hz)
    have h' : Q r s := by rw [← la, ← lb, hz] at h; simpa using h
    rw [if_neg (by rw [hz]; simp)]
    refine wpAny_bind (wpAny_dictEpoch go gd (wpAny_bind ?_))
    rw [Std.Legacy.Range.forIn_eq_forIn_range']
    simp only [Std.Legacy.Range.size, Nat.sub_zero, Nat.add_sub_cancel, Nat.div_one]
    refine wpAny_forIn_list _ (fun rest q s' => s' = s ∧ q = (none, ()) ∧ ∃ i, i ≤ es.size ∧ rest = List.range' i (es.size - i) ∧ Hits P w A s xb (xa.drop i) r) _ (fun x rest q s' hx => ?_) (fun q s' hx => ?_) _ _ ⟨rfl, rfl, 0, Nat.zero_le _, by simp, hits'⟩
    · obtain ⟨rfl, rfl, i, hi, hr, hp⟩ := hx
      have lt : i < es.size := by
        refine Nat.lt_of_not_le fun q => ?_
        rw [Nat.sub_eq_zero_of_le q] at hr
        simp at hr
      rw [show es.size - i = (es.size - (i + 1)) + 1 from by omega, List.range'_succ] at hr
      obtain ⟨rfl, hr⟩ := List.cons.inj hr
      have ltx : x < xa.length := by rw [← la]; exact lt
      have ex : es[x]? = some (entryOfKey (nestedKind P w) xa[x]) := by rw [entry_at ge, List.getElem?_eq_getElem ltx]; rfl
      rw [List.drop_eq_getElem_cons ltx] at hp
      refine wpAny_bind (wpAny_dictEntries go gd ?_)
      rw [ex]
      show wpAny _ _ (holding [.ref xa[x].2.1, xa[x].2.2] _ >>= _) _ _ _
      refine wpAny_bind (wpAny_holding (wpAny_bind ?_))
      refine wpAny_dictFind_heap hu (gi _ (List.getElem_mem ltx)) ko kd ke ki kn (fun nn => ?_) (fun j p hj => ?_)
      · cases hp with
        | miss hm =>
          refine wpAny_pure ?_
          show wpAny _ _ (if (!false) = true then _ else _) _ _ _
          rw [if_pos (by decide)]
          exact wpAny_pure (wpAny_pure h')
        | hit hm _ _ =>
          unfold atKey at hm
          obtain ⟨q, hq, _⟩ := Option.map_eq_some_iff.mp hm
          obtain ⟨j, hj, ej⟩ := List.getElem_of_mem (List.mem_of_find?_eq_some hq)
          have e1 : q.1 = xa[x].1 := by simpa using List.find?_some hq
          exact absurd (by rw [List.getElem?_eq_getElem hj, ej, ← e1]) (nn j q.2)
      · have hat := atKey_of_get kn hj
        refine wpAny_bind (wpAny_dictEntries ko kd ?_)
        have ef : fs[j]? = some (entryOfKey (nestedKind P w) (xa[x].1, p)) := by rw [entry_at ke, hj]; rfl
        rw [ef]
        cases hp with
        | miss hm => rw [hm] at hat; cases hat
        | @hit _ c y _ e b' hm he hrest =>
          rw [hm] at hat
          obtain rfl : (c, y) = p := Option.some.inj hat
          refine wpAny_holding (he _ _ ?_)
          cases e with
          | false =>
            rw [Bool.false_and] at h'
            show wpAny _ _ (if (!false) = true then _ else _) _ _ _
            rw [if_pos (by decide)]
            exact wpAny_pure (wpAny_pure h')
          | true =>
            show wpAny _ _ (if (!true) = true then _ else _) _ _ _
            rw [if_neg (by decide)]
            refine wpAny_bind (wpAny_dictEpoch go gd ?_)
            rw [if_neg (by simp)]
            exact wpAny_pure ⟨rfl, rfl, x + 1, lt, hr, by rw [Bool.true_and]; exact hrest⟩
    · obtain ⟨rfl, rfl, i, hi, hr, hp⟩ := hx
      have e : i = es.size := by
        refine Nat.le_antisymm hi (Nat.le_of_not_lt fun q => ?_)
        rw [show es.size - i = (es.size - (i + 1)) + 1 from by omega, List.range'_succ] at hr
        cases hr
      rw [e, la, List.drop_length] at hp
      cases hp
      exact wpAny_pure h'
  · rw [if_pos (by simpa using hz)]
    have q : (xa.length == xb.length) = false := by rw [← la, ← lb]; simpa using hz
    rw [q] at h
    exact wpAny_bind (wpAny_rule (wpAny_pure h))
/-- == and != of two dicts by what samePairs tells -/
theorem dict_eq_of {E : Value → Shared → Prop} {a b : Addr} {r : Bool} {Q : Value → Shared → Prop} (ta : s.TypeIs (.ref a) "dict") (tb : s.TypeIs (.ref b) "dict") (hu : A.units < cLine)
    (run : ∀ (E : Value → Shared → Prop) (Q : Bool → Shared → Prop) (nm : String), Q r s → wpAny (model P w) A.in1 (Builtin.Dict.samePairs nm a b) Q E s) (h : Q (.bool r) s) : wpAny (model P w) A (compareOp .Eq (.ref a) (.ref b)) Q E s := by
  refine wpAny_richCompare_same_room (op := .Eq) ta tb PySem.F.slot_dict_eq (wpAny_call_entry PySem.F.slot_dict_eq ta PySem.F.entry_dict_eq ?_ (PySem.F.args_dict_eq_2 _ _)) hu
  show wpAny _ _ (Builtin.Dict.dictSlotArgs "__eq__" ⟨[.ref a, .ref b], []⟩ >>= _) _ _ s
  unfold Builtin.Dict.dictSlotArgs
  refine wpAny_bind (wpAny_bind (wpAny_notOrdered_dict ta ?_))
  show wpAny _ _ (pure (Value.ref a, Value.ref b)) _ _ s
  refine wpAny_pure (wpAny_bind (wpAny_isInstance (T := "dict") tb PySem.F.sub_dict_dict ?_))
  simp only [Bool.not_true, Bool.false_eq_true, if_false]
  exact wpAny_bind (wpAny_pure (wpAny_bind (wpAny_pure (wpAny_bind (run _ _ _ (wpAny_pure ⟨_, rfl, (fun z => nomatch z), by simpa using h⟩))))))
theorem dict_ne_of {E : Value → Shared → Prop} {a b : Addr} {r : Bool} {Q : Value → Shared → Prop} (ta : s.TypeIs (.ref a) "dict") (tb : s.TypeIs (.ref b) "dict") (hu : A.units < cLine)
    (run : ∀ (E : Value → Shared → Prop) (Q : Bool → Shared → Prop) (nm : String), Q r s → wpAny (model P w) A.in1 (Builtin.Dict.samePairs nm a b) Q E s) (h : Q (.bool (!r)) s) : wpAny (model P w) A (compareOp .NotEq (.ref a) (.ref b)) Q E s := by
  refine wpAny_richCompare_same_room (op := .NotEq) ta tb PySem.F.slot_dict_ne (wpAny_call_entry PySem.F.slot_dict_ne ta PySem.F.entry_dict_ne ?_ (PySem.F.args_dict_ne_2 _ _)) hu
  show wpAny _ _ (Builtin.Dict.dictSlotArgs "__ne__" ⟨[.ref a, .ref b], []⟩ >>= _) _ _ s
  unfold Builtin.Dict.dictSlotArgs
  refine wpAny_bind (wpAny_bind (wpAny_notOrdered_dict ta ?_))
  show wpAny _ _ (pure (Value.ref a, Value.ref b)) _ _ s
  refine wpAny_pure (wpAny_bind (wpAny_isInstance (T := "dict") tb PySem.F.sub_dict_dict ?_))
  simp only [Bool.not_true, Bool.false_eq_true, if_false]
  exact wpAny_bind (wpAny_pure (wpAny_bind (wpAny_pure (wpAny_bind (run _ _ _ (wpAny_pure ⟨_, rfl, (fun z => nomatch z), by simpa using h⟩))))))
end
end Vi
/-! text Vi10 -/
set_option Elab.async false
set_option linter.all false
set_option maxRecDepth 100000
set_option maxHeartbeats 1000000
/-! Vi, part 10: the comparisons' rule. -/
namespace Vi
open PySem PySem.Spec PyProof.Rows L2
section
variable {X : Cx} {C : Cc} {pins : List (Addr × Obj)} {σ : L2.St} {H F : Hp} {μ : List Addr} {s : Shared} {A : Around}
theorem eqP_at (I : Inv X pins σ H s) (hs : Sub F H) (hu : A.in1.units + 64 < cLine) {d e : D} {v y : V} {u z : Value} {b : Bool} (h1 : DR (wd X C) F μ d v) (h2 : DR (wd X C) F μ e y) (r1 : RelV v u) (r2 : RelV y z) (h : eqP d e = some b) :
    SeqAt.EqP X.prog X.w A.in1 s u z b := by
  obtain ⟨p, q, e1, e2, s1, s2, rfl⟩ := eqP_some h
  obtain ⟨as, q1⟩ := Dp.reads I p v u (LR.dp (.inl h1) hs e1) r1
  obtain ⟨bs, q2⟩ := Dp.reads I q y z (LR.dp (.inl h2) hs e2) r2
  exact (PySem.W.keq_at q1 q2 s1 s2 hu).eqP
theorem hitsN (I : Inv X pins σ H s) (hs : Sub F H) (hu : A.in1.units + 64 < cLine) {ls ws : List D} {xb : NX} (rb : DRn (wd X C) F μ ls ws xb) : ∀ {ks us : List D} {xa : NX} {r : Bool}, DRn (wd X C) F μ ks us xa → eqAll eqP ls ws ks us = some r → Hits X.prog X.w A.in1 s xb xa r
  | _, _, _, r, .nil, h => by simp only [eqAll] at h; cases h; exact .nil
  | _, _, _, r, .cons (k := k) (d := d) (ks := ks) (ds := ds) (key := key) (b := b) (v := v) (u := u) (xs := xs) ek h1 rv h2 t, h => by
    simp only [eqAll] at h
    rcases DRn.get ek rb with ⟨g1, g2⟩ | ⟨d', c, y, v', g1, g2, rv', h3⟩
    · rw [g1] at h; cases h; exact .miss g2
    · rw [g1] at h
      dsimp only at h
      split at h
      · rename_i e r' q1 q2
        cases h
        exact Hits.hit (x := (key, b, u)) g2 (eqP_at (A := A) I hs hu h2 h3 rv rv' q1) (hitsN I hs hu rb t q2)
      · cases h
theorem hitsK (I : Inv X pins σ H s) (hs : Sub F H) (hu : A.in1.units + 64 < cLine) {ls ws : List D} {kb : List (Key × V)} {vb : List (Key × Value)} (rb : DRk (wd X C) F μ ls ws kb) (kvb : KV kb vb) :
    ∀ {ks us : List D} {ka : List (Key × V)} {va : List (Key × Value)} {r : Bool}, DRk (wd X C) F μ ks us ka → KV ka va → eqAll eqP ls ws ks us = some r → PySem.W.KeqHitsP X.prog X.w A.in1 s vb va r
  | _, _, _, va, r, .nil, kv, h => by simp only [eqAll] at h; cases h; cases kv; exact .nil
  | _, _, _, va, r, .cons (k := k) (d := d) (ks := ks) (ds := ds) (key := key) (v := v) (kvs := kvs) ek h2 t, kv, h => by
    simp only [eqAll] at h
    cases kv with
    | @cons _ q _ qs hq kv' =>
      obtain ⟨k', u⟩ := q
      obtain ⟨rfl, rv⟩ : key = k' ∧ RelV v u := hq
      have rel := kvb.val key
      rcases DRk.get ek rb with ⟨g1, g2⟩ | ⟨d', v', g1, g2, h3⟩
      · rw [g1] at h; cases h
        rw [g2] at rel
        exact .miss (RelO.none_of rel)
      · rw [g1] at h
        dsimp only at h
        rw [g2] at rel
        obtain ⟨y, hy, ry⟩ := RelO.some_of rel
        split at h
        · rename_i e r' q1 q2
          cases h
          exact .hit hy (eqP_at (A := A) I hs hu h2 h3 rv ry q1) (hitsK I hs hu rb kvb t kv' q2)
        · cases h
theorem DRn.len {W : Wd} : ∀ {ks us : List D} {xs : NX}, DRn W F μ ks us xs → ks.length = xs.length
  | _, _, _, .nil => rfl
  | _, _, _, .cons _ _ _ _ t => congrArg (· + 1) (DRn.len t)
theorem DRk.len {W : Wd} : ∀ {ks us : List D} {xs : List (Key × V)}, DRk W F μ ks us xs → ks.length = xs.length
  | _, _, _, .nil => rfl
  | _, _, _, .cons _ _ t => congrArg (· + 1) (DRk.len t)
theorem kinds {ks ls : List D} (h : (ks.all (keyOk ls) && ls.all (keyOk ks)) = true) (hk : ks.all isPlain = true ∨ ks.all isTup = true) (hl : ls.all isPlain = true ∨ ls.all isTup = true) :
    (ks.all isPlain = true ∧ ls.all isPlain = true) ∨ (ks.all isTup = true ∧ ls.all isTup = true) := by
  obtain ⟨h1, h2⟩ := Bool.and_eq_true_iff.mp h
  cases ks with
  | nil => exact hl.imp (fun z => ⟨rfl, z⟩) fun z => ⟨rfl, z⟩
  | cons k r =>
    have q := (List.all_eq_true.mp h1) k List.mem_cons_self
    rcases keyOk_case q with ⟨key, ek, hp⟩ | ⟨ys, key, rfl, ek, hd, hp⟩
    · refine .inl ⟨?_, hp⟩
      refine hk.elim id fun z => ?_
      have z := (List.all_eq_true.mp z) k List.mem_cons_self
      cases k <;> simp [isTup, D.key] at z ek
    · refine .inr ⟨?_, hp⟩
      refine hk.elim (fun z => ?_) id
      have z := (List.all_eq_true.mp z) _ List.mem_cons_self
      simp [isPlain] at z
/-- two dicts compared -/
def rEqX (X : Cx) (C : Cc) (neg : Bool) : R2 := fun x y H Q => ∃ F μ ks us ls ws b, Sub F H ∧ LR (wd X C) F μ H (.dct ks us) x ∧ LR (wd X C) F μ H (.dct ls ws) y ∧ eqD (.dct ks us) (.dct ls ws) = some b ∧ Q (.bl (if neg then !b else b)) H
theorem eqX_run (hu : X.A.units + 66 < cLine) {x y : V} {v u : Value} {ks us ls ws : List D} {b : Bool} (I : Inv X pins σ H s) (hs : Sub F H) (h1 : LR (wd X C) F μ H (.dct ks us) x) (h2 : LR (wd X C) F μ H (.dct ls ws) y) (rx : RelV x v) (ry : RelV y u) (e : eqD (.dct ks us) (.dct ls ws) = some b) :
    ∃ p q, v = .ref p ∧ u = .ref q ∧ s.TypeIs (.ref p) "dict" ∧ s.TypeIs (.ref q) "dict" ∧ ∀ (E : Value → Shared → Prop) (Q : Bool → Shared → Prop) (nm : String), Q b s → wpAny (model X.prog X.w) X.A.in1 (Builtin.Dict.samePairs nm p q) Q E s := by
  have kd : ∀ {ks us : List D} {x : V}, LR (wd X C) F μ H (.dct ks us) x → ks.all isPlain = true ∨ ks.all isTup = true := fun h => by
    rcases LR.dctE h hs with ⟨_, _, _, _, r⟩ | ⟨_, _, _, _, r⟩
    · exact .inl r.plain
    · exact .inr r.tups
  have e' : (if (ks.all (keyOk ls) && ls.all (keyOk ks)) = true then (if ks.length = ls.length then eqAll eqP ls ws ks us else some false) else none) = some b := e
  split at e'
  · rename_i hk
    rcases kinds hk (kd h1) (kd h2) with ⟨p1, p2⟩ | ⟨p1, p2⟩
    · obtain ⟨a, ka, rfl, k1, r1⟩ := LR.dctK h1 hs p1
      obtain ⟨c, kc, rfl, k2, r2⟩ := LR.dctK h2 hs p2
      cases rx; cases ry
      obtain ⟨m1, _, va, v1, d1⟩ := Inv.rdK I k1
      obtain ⟨m2, _, vc, v2, d2⟩ := Inv.rdK I k2
      have l1 : ks.length = va.length := by rw [r1.len, v1.length]
      have l2 : ls.length = vc.length := by rw [r2.len, v2.length]
      refine ⟨a, c, rfl, rfl, d1.typeIs, d2.typeIs, fun E Q nm hq => ?_⟩
      split at e'
      · rename_i hl
        refine PySem.W.samePairsP m1 m2 d1 d2 (r := b) (fun _ => hitsK (A := X.A) I hs (by show X.A.units + 1 + 64 < cLine; omega) r2 v2 r1 v1 e') ?_
        rw [← l1, ← l2, hl]; simpa using hq
      · rename_i hl
        cases e'
        refine PySem.W.samePairsP m1 m2 d1 d2 (r := false) (fun z => absurd (by rw [l1, l2]; exact z) hl) ?_
        simpa using hq
    · obtain ⟨a, ka, rfl, k1, r1⟩ := LR.dctN h1 hs p1
      obtain ⟨c, kc, rfl, k2, r2⟩ := LR.dctN h2 hs p2
      cases rx; cases ry
      obtain ⟨m1, _, d1, _⟩ := Inv.rdX I hs k1 r1
      obtain ⟨m2, _, d2, _⟩ := Inv.rdX I hs k2 r2
      have l1 : ks.length = ka.length := r1.len
      have l2 : ls.length = kc.length := r2.len
      have room : (nestedKind X.prog X.w).room X.A.in1 := by show X.A.units + 1 + 8 < cLine; omega
      refine ⟨a, c, rfl, rfl, d1.typeIs, d2.typeIs, fun E Q nm hq => ?_⟩
      split at e'
      · rename_i hl
        refine same_heap room m1 m2 d1 d2 (r := b) (fun _ => hitsN (A := X.A) I hs (by show X.A.units + 1 + 64 < cLine; omega) r2 r1 e') ?_
        rw [← l1, ← l2, hl]; simpa using hq
      · rename_i hl
        cases e'
        refine same_heap room m1 m2 d1 d2 (r := false) (fun z => absurd (by rw [l1, l2]; exact z) hl) ?_
        simpa using hq
  · cases e'
theorem op_eqX (hu : X.A.units + 66 < cLine) : OpR X (compareOp .Eq) (rEqX X C false) := by
  intro pins s σ H x y v u Q I rx ry h
  obtain ⟨F, μ, ks, us, ls, ws, b, hs, h1, h2, e, q⟩ := h
  obtain ⟨p, q', rfl, rfl, t1, t2, run⟩ := eqX_run hu I hs h1 h2 rx ry e
  exact dict_eq_of t1 t2 (by omega) run ⟨.bl _, H, I, rfl, q⟩
theorem op_neX (hu : X.A.units + 66 < cLine) : OpR X (compareOp .NotEq) (rEqX X C true) := by
  intro pins s σ H x y v u Q I rx ry h
  obtain ⟨F, μ, ks, us, ls, ws, b, hs, h1, h2, e, q⟩ := h
  obtain ⟨p, q', rfl, rfl, t1, t2, run⟩ := eqX_run hu I hs h1 h2 rx ry e
  exact dict_ne_of t1 t2 (by omega) run ⟨.bl _, H, I, rfl, q⟩
end
section
variable {X : Cx} {C : Cc} {E : XK} {F : Hp} {μ : List Addr} {S : St} {σ : L2.St} {H : Hp} {Q : VK} {d e : D} {u v : V}
theorem eqD_case {b : Bool} (h : eqD d e = some b) : eqP d e = some b ∨ ∃ ks us ls ws, d = .dct ks us ∧ e = .dct ls ws := by
  unfold eqD at h
  split at h
  · exact .inr ⟨_, _, _, _, rfl, rfl⟩
  · exact .inl h
def Cm.py : Cm → CmpOp
  | .eq => .Eq | .ne => .NotEq | .lt => .Lt | .le => .LtE | .gt => .Gt | .ge => .GtE | .is => .Is | .isN => .IsNot | .inn => .In | .ninn => .NotIn
/-- what a comparison asks of values -/
def rCm (X : Cx) (C : Cc) : Cm → R2
  | .eq => fun x y H Q => rEqD X.K x y H Q ∨ rEqX X C false x y H Q
  | .ne => fun x y H Q => rNeD X.K x y H Q ∨ rEqX X C true x y H Q
  | .lt => rI0 fun i j => .bl (decide (i < j))
  | .le => rI0 fun i j => .bl (decide (i ≤ j))
  | .gt => rI0 fun i j => .bl (decide (j < i))
  | .ge => rI0 fun i j => .bl (decide (j ≤ i))
  | .is => rIsA false
  | .isN => rIsA true
  | .inn => rInA X C
  | .ninn => rNinA X C
theorem op_cm (hu : X.A.units + 66 < cLine) (op : Cm) : OpR X (compareOp op.py) (rCm X C op) := by
  cases op with
  | eq => exact (op_eqD (by omega)).or (op_eqX hu)
  | ne => exact (op_neD (by omega)).or (op_neX hu)
  | lt => exact op_lt
  | le => exact op_le
  | gt => exact op_gt
  | ge => exact op_ge
  | is => exact op_isA
  | isN => exact op_isnA
  | inn => exact op_inA (by omega)
  | ninn => exact op_ninA (by omega)
theorem k_cm (op : Cm) (R : Rel (wd X C) F μ S σ H) (h1 : LR (wd X C) F μ H d u) (h2 : LR (wd X C) F μ H e v) (p : Post (wd X C) E (OR (wd X C)) (cmp op d e) F μ S σ H Q) : rCm X C op u v H Q := by
  cases op with
  | eq =>
    obtain ⟨b, hb, p⟩ := Post.opt p
    have q := Post.retV p R (.bl b)
    rcases eqD_case hb with hb | ⟨ks, us, ls, ws, rfl, rfl⟩
    · exact .inl (k_eqP false R h1 h2 hb q)
    · exact .inr ⟨F, μ, ks, us, ls, ws, b, R.sub, h1, h2, hb, q⟩
  | ne =>
    obtain ⟨b, hb, p⟩ := Post.opt p
    have q := Post.retV p R (.bl (!b))
    rcases eqD_case hb with hb | ⟨ks, us, ls, ws, rfl, rfl⟩
    · exact .inl (k_eqP true R h1 h2 hb q)
    · exact .inr ⟨F, μ, ks, us, ls, ws, b, R.sub, h1, h2, hb, q⟩
  | lt => exact k_cmpI R h1 h2 p
  | le => exact k_cmpI R h1 h2 p
  | gt => exact k_cmpI R h1 h2 p
  | ge => exact k_cmpI R h1 h2 p
  | is =>
    obtain ⟨b, hb, p⟩ := Post.opt p
    exact k_is false R h1 h2 hb (Post.retV p R (.bl b))
  | isN =>
    obtain ⟨b, hb, p⟩ := Post.opt p
    exact k_is true R h1 h2 hb (Post.retV p R (.bl (!b)))
  | inn =>
    obtain ⟨b, hb, p⟩ := Post.opt p
    have q := Post.retV p R (.bl b)
    rcases k_in R h1 h2 hb with ⟨p', ds, a1, a2, a3, a4, rfl⟩ | ⟨p', ds, a1, a2, a3, a4, rfl⟩ | ⟨a, kvs, k, a1, a2, a3, rfl⟩ | ⟨a, b', F, μ, k, key, ks, us, xs, a1, a2, a3, a4, a5, a6, a7, a8, rfl⟩ | ⟨i, j, a1, a2, rfl⟩
    · exact .inl ⟨p', ds, a1, a2, a3, a4, q⟩
    · exact .inr (.inl ⟨p', ds, a1, a2, a3, a4, q⟩)
    · exact .inr (.inr (.inl ⟨a, kvs, k, a1, a2, a3, q⟩))
    · exact .inr (.inr (.inr (.inl ⟨a, b', F, μ, k, key, ks, us, xs, a1, a2, a3, a4, a5, a6, a7, a8, q⟩)))
    · exact .inr (.inr (.inr (.inr ⟨i, j, a1, a2, q⟩)))
  | ninn =>
    obtain ⟨b, hb, p⟩ := Post.opt p
    have q := Post.retV p R (.bl (!b))
    rcases k_in R h1 h2 hb with ⟨p', ds, a1, a2, a3, a4, rfl⟩ | ⟨p', ds, a1, a2, a3, a4, rfl⟩ | ⟨a, kvs, k, a1, a2, a3, rfl⟩ | ⟨a, b', F, μ, k, key, ks, us, xs, a1, a2, a3, a4, a5, a6, a7, a8, rfl⟩ | ⟨i, j, a1, a2, rfl⟩
    · exact .inl ⟨p', ds, a1, a2, a3, a4, q⟩
    · exact .inr (.inl ⟨p', ds, a1, a2, a3, a4, q⟩)
    · exact .inr (.inr (.inl ⟨a, kvs, k, a1, a2, a3, q⟩))
    · exact .inr (.inr (.inr (.inl ⟨a, b', F, μ, k, key, ks, us, xs, a1, a2, a3, a4, a5, a6, a7, a8, q⟩)))
    · exact .inr (.inr (.inr (.inr ⟨i, j, a1, a2, q⟩)))
abbrev mCmp (op : Cm) (ma mb : M O) : M O := bind ma fun x => bind mb fun y => bind (rdh x) fun d => bind (rdh y) fun e => cmp op d e
theorem se_cmp {a b : Expr} {ma mb : M O} {pos : Pos} (hu : X.A.units + 66 < cLine) (op : Cm) (hm : behindInMarks op.py b = false) (ha : PE X a (tE (wd X C) E ma)) (hb : PE X b (tE (wd X C) E mb)) :
    PE X (.Compare a [op.py] [b] pos) (tE (wd X C) E (mCmp op ma mb)) :=
  peW (pe_cmpR (op_cm hu op) ha hb hm) fun _ _ _ h => opBin (fun R h1 h2 p => k_cm op R h1 h2 p) h
end
end Vi
/-! text Vi11 -/
set_option Elab.async false
set_option linter.all false
set_option maxRecDepth 100000
set_option maxHeartbeats 1000000
/-! Vi, part 11: names, constants, tests, places, parts, displays. -/
namespace Vi
open PySem PySem.Spec PyProof.Rows L2

/-! ### the semantics -/
def mVar (i : Nat) : M O := fun s => match s.σ[i]? with
  | some (.s d) => .ok (.v d) s
  | some (.o _) => .ok (.at i) s
  | _ => .fail
def mC (d : D) : M O := ret (.v d)
def mTest (m : M O) : M Bool := bind m fun o => bind (rdh o) fun d => opt (truth d)
def mTestB (m : M O) : M Bool := bind m fun o => match o with
  | .v (.bl b) => ret b
  | _ => fail
def mAndT (a b : M Bool) : M Bool := bind a fun c => if c = true then b else ret false
def mOrT (a b : M Bool) : M Bool := bind a fun c => if c = true then ret true else b
def mNotT (a : M Bool) : M Bool := bind a fun c => ret (!c)
/-- not a new thing -/
def keepO : O → M O
  | .w _ => fail
  | o => ret o
def mAnd (a b : M O) : M O := bind a fun o => bind (rdh o) fun d => bind (opt (truth d)) fun k => if k = true then b else keepO o
def mOr (a b : M O) : M O := bind a fun o => bind (rdh o) fun d => bind (opt (truth d)) fun k => if k = true then keepO o else b
def mNot (a : M O) : M O := bind a fun o => bind (rdh o) fun d => bind (opt (truth d)) fun k => ret (.v (.bl (!k)))
def mNeg (a : M O) : M O := bind a fun o => bind (rd o) negD
def mIfe (c : M Bool) (a b : M O) : M O := bind c fun k => if k = true then a else b
def mChn (op op' : Cm) (a b c : M O) : M O := bind a fun x => bind b fun y => bind (bind (rdh x) fun d => bind (rdh y) fun e => cmp op d e) fun r => match r with
  | .v (.bl true) => bind c fun z => bind (rdh y) fun d => bind (rdh z) fun e => cmp op' d e
  | .v (.bl false) => ret (.v (.bl false))
  | _ => fail
def mIdx (a b : M O) : M O := bind a fun x => bind b fun y => bind (rdh x) fun d => bind (rd y) fun e => idxD d e
def partD : D → M (Option Int)
  | .int i => ret (some i)
  | _ => fail
def mPart (m : M O) : M (Option Int) := bind m fun o => bind (rd o) partD
def mNoPart : M (Option Int) := ret none
def mSli (a : M O) (lo hi : M (Option Int)) : M O := bind a fun x => bind lo fun l => bind hi fun u => bind (rdh x) fun d => slice l u d
def revD : D → M O
  | .lst xs => ret (.w (.lst xs.reverse))
  | _ => fail
def mRev (a : M O) : M O := bind a fun x => bind (rdh x) revD
/-- items, handed on for good -/
def mNil : M (List D) := ret []
def mCons (a : M O) (b : M (List D)) : M (List D) := bind (bind a esc) fun d => bind b fun ds => ret (d :: ds)
/-- a list with a star among its items -/
def starD : D → M (List D)
  | .tup xs => ret xs
  | .lst xs => ret xs
  | _ => fail
def mTup (m : M (List D)) : M O := bind m fun ds => if ds.length ≤ line then ret (.v (.tup ds)) else fail
def mLst (m : M (List D)) : M O := bind m fun ds => if ds.length ≤ line then ret (.w (.lst ds)) else fail

section
variable {X : Cx} {C : Cc} {E : XK} {e a b c : Expr} {es : List Expr} {m ma mb mc : M O} {pos : Pos}
theorem se_var {i : Nat} {x : Str} (hN : X.N[i]? = some x) (hv : Vis X.env.scope x) (hd : (x == ("__debug__" : Str)) = false) (hcd : (x == ("__classdict__" : Str)) = false) : PE X (.Name x pos) (tE (wd X C) E (mVar i)) :=
  peW (pe_var hN hv hd hcd) fun σ H Q ⟨F, μ, S, R, p⟩ => by
    unfold Post mVar at p
    cases e : S.σ[i]? with
    | none => rw [e] at p; exact p.elim
    | some sl =>
      rw [e] at p
      cases sl with
      | e => exact p.elim
      | s d =>
        obtain ⟨v, h1, h2⟩ := R.sl i d e
        exact ⟨v, h1, p F μ v H (Step.refl R) (Ne.refl S) h2⟩
      | o d =>
        obtain ⟨q, h1, _⟩ := R.ow i d e
        exact ⟨.ref q, h1, p F μ _ H (Step.refl R) (Ne.refl S) ⟨h1, d, .inr e⟩⟩
theorem se_c {d : D} {v : V} {t : TE} (h : PE X e t) (ht : ∀ σ H Q, Q v H → t σ H Q) (r : ∀ F μ, DR (wd X C) F μ d v) : PE X e (tE (wd X C) E (mC d)) :=
  peW h fun σ H Q ⟨F, μ, S, R, p⟩ => ht σ H Q (Post.retV p R (r F μ))
theorem se_int {i : Int} {j : Nat} : PE X (.Constant (.int i) j pos) (tE (wd X C) E (mC (.int i))) := se_c pe_int (fun _ _ _ h => h) fun _ _ => .int i
theorem se_bl {i : Bool} {j : Nat} : PE X (.Constant (.bool i) j pos) (tE (wd X C) E (mC (.bl i))) := se_c pe_bl (fun _ _ _ h => h) fun _ _ => .bl i
theorem se_non {j : Nat} : PE X (.Constant .none j pos) (tE (wd X C) E (mC .non)) := se_c pe_non (fun _ _ _ h => h) fun _ _ => .non
theorem se_str {x : Str} {j : Nat} : PE X (.Constant (.str x) j pos) (tE (wd X C) E (mC (.str x))) := se_c pe_str (fun _ _ _ h => h) fun _ _ => .str x
/-- a module's int, text -/
theorem se_glob {x : Str} {d : D} {v : V} {u : Value} (hg : Gl X x) (hm : X.mg x = some u) (r : RelV v u) (hr : ∀ F μ, DR (wd X C) F μ d v) (hd : (x == ("__debug__" : Str)) = false) : PE X (.Name x pos) (tE (wd X C) E (mC d)) :=
  se_c (pe_glob hg hm r hd) (fun _ _ _ h => h) hr

/-! ### truth -/
theorem truV {F : Hp} {μ : List Addr} {H : Hp} {d : D} {v : V} {k : Bool} (hs : Sub F H) (h : LR (wd X C) F μ H d v) (e : truth d = some k) : TruV X.K v H k := by
  cases d with
  | non => cases e; rw [h.non]; rfl
  | bl b => cases e; rw [h.bl]; rfl
  | int i => cases e; rw [h.int]; rfl
  | str x =>
    rw [h.str]
    have e' : (if x.length ≤ line then some ((x.length : Int) != 0) else none) = some k := e
    split at e'
    · cases e'; rename_i hl; exact ⟨hl, rfl⟩
    · cases e'
  | tup xs =>
    cases e
    obtain ⟨a, vs, rfl, s1, _, r1⟩ := h.tup hs
    refine .inr (.inl ⟨vs, s1, ?_⟩)
    cases r1 <;> rfl
  | lst xs =>
    cases e
    obtain ⟨a, vs, rfl, s1, r1⟩ := h.lst hs
    refine .inl ⟨vs, .inl s1, ?_⟩
    cases r1 <;> rfl
  | _ => cases e
theorem st_truth (h : PE X e (tE (wd X C) E m)) (he : ∀ whole, isTrue e X.env whole = (do let v ← whole; standAt e.pos; holding [v] (truthy v))) : PT X e (tT (wd X C) E (mTest m)) :=
  ptW (pt_truth h he) fun σ H Q ⟨F, μ, S, R, p⟩ => ⟨F, μ, S, R, (Post.bind p).mono fun v H1 ⟨o, F1, μ1, S1, r1, t1, n1, p1⟩ => by
    obtain ⟨d, h1, p2⟩ := Post.rdh p1 t1.rel r1
    cases q : truth d with
    | none => rw [q] at p2; exact p2.elim
    | some k => rw [q] at p2; exact ⟨k, truV t1.rel.sub h1 q, Post.ret p2 t1.rel (b := k) rfl⟩⟩
theorem tTest_of {t : TE} (ht : ∀ {σ H Q Q'}, t σ H Q → (∀ v H', Q v H' → Q' v H') → t σ H Q') (hm : ∀ σ H Q, tE (wd X C) E m σ H Q → t σ H Q) : ∀ σ H Q, tT (wd X C) E (mTestB m) σ H Q → tTest t σ H Q := by
  intro σ H Q ⟨F, μ, S, R, p⟩
  refine ht (hm σ H _ ⟨F, μ, S, R, Post.bind p⟩) fun v H1 ⟨o, F1, μ1, S1, r1, t1, n1, p1⟩ => ?_
  cases o with
  | v d =>
    cases d with
    | bl b =>
      cases r1
      exact ⟨b, rfl, Post.ret p1 t1.rel (b := b) rfl⟩
    | _ => exact p1.elim
  | _ => exact p1.elim
theorem pw_of {rest : List Expr} {op : BoolOp} {t : TT} (h : PW X (.BoolOp op rest pos) t) : PT X (.BoolOp op rest pos) t := h.pt
theorem pwW {t u : TT} (h : PW X e t) (f : ∀ σ H Q, u σ H Q → t σ H Q) : PW X e u := ⟨fun wh pins s σ H Q I hw => h.run wh pins s σ H Q I (f σ H Q hw)⟩
theorem st_and {rest : List Expr} {na nb : M Bool} (ha : PT X a (tT (wd X C) E na)) (hb : PW X (.BoolOp .And (b :: rest) pos) (tT (wd X C) E nb)) : PW X (.BoolOp .And (a :: b :: rest) pos) (tT (wd X C) E (mAndT na nb)) :=
  pwW (pw_and ha hb) fun σ H Q ⟨F, μ, S, R, p⟩ => ⟨F, μ, S, R, (Post.bind p).mono fun k H1 ⟨k', F1, μ1, S1, r1, t1, n1, p1⟩ => by
    cases r1
    cases k with
    | true => exact ⟨F1, μ1, S1, t1.rel, p1⟩
    | false => exact Post.ret p1 t1.rel (b := false) rfl⟩
theorem st_or {rest : List Expr} {na nb : M Bool} (ha : PT X a (tT (wd X C) E na)) (hb : PW X (.BoolOp .Or (b :: rest) pos) (tT (wd X C) E nb)) : PW X (.BoolOp .Or (a :: b :: rest) pos) (tT (wd X C) E (mOrT na nb)) :=
  pwW (pw_or ha hb) fun σ H Q ⟨F, μ, S, R, p⟩ => ⟨F, μ, S, R, (Post.bind p).mono fun k H1 ⟨k', F1, μ1, S1, r1, t1, n1, p1⟩ => by
    cases r1
    cases k with
    | true => exact Post.ret p1 t1.rel (b := true) rfl
    | false => exact ⟨F1, μ1, S1, t1.rel, p1⟩⟩
theorem st_not {na : M Bool} (ha : PT X a (tT (wd X C) E na)) : PT X (.UnaryOp .Not a pos) (tT (wd X C) E (mNotT na)) :=
  ptW (pt_not ha) fun σ H Q ⟨F, μ, S, R, p⟩ => ⟨F, μ, S, R, (Post.bind p).mono fun k H1 ⟨k', F1, μ1, S1, r1, t1, n1, p1⟩ => by
    cases r1
    exact Post.ret p1 t1.rel (b := !k) rfl⟩
/-! ### and, or, not as values -/
theorem Post.keepO {F : Hp} {μ : List Addr} {S : St} {σ : L2.St} {H H0 : Hp} {Q : VK} {o : O} {v : V} {W : Wd} (p : Post W E (OR W) (Vi.keepO o) F μ S σ H Q) (R : Rel W F μ S σ H) (r : OR W H0 F μ S σ H o v) : Q v H := by
  cases o with
  | v d => exact Post.ret p R (b := v) r
  | w d => exact p.elim
  | «at» i => exact Post.ret p R (b := v) r
theorem se_and {rest : List Expr} (ha : PE X a (tE (wd X C) E ma)) (hb : PE X (.BoolOp .And (b :: rest) pos) (tE (wd X C) E mb)) : PE X (.BoolOp .And (a :: b :: rest) pos) (tE (wd X C) E (mAnd ma mb)) :=
  peW (pe_andT ha hb) fun σ H Q ⟨F, μ, S, R, p⟩ => ⟨F, μ, S, R, (Post.bind p).mono fun v H1 ⟨o, F1, μ1, S1, r1, t1, n1, p1⟩ => by
    obtain ⟨d, h1, p2⟩ := Post.rdh p1 t1.rel r1
    obtain ⟨k, hk, p3⟩ := Post.opt p2
    refine ⟨k, truV t1.rel.sub h1 hk, ?_⟩
    cases k with
    | true => exact ⟨F1, μ1, S1, t1.rel, p3⟩
    | false => exact Post.keepO p3 t1.rel r1⟩
theorem se_or {rest : List Expr} (ha : PE X a (tE (wd X C) E ma)) (hb : PE X (.BoolOp .Or (b :: rest) pos) (tE (wd X C) E mb)) : PE X (.BoolOp .Or (a :: b :: rest) pos) (tE (wd X C) E (mOr ma mb)) :=
  peW (pe_orT ha hb) fun σ H Q ⟨F, μ, S, R, p⟩ => ⟨F, μ, S, R, (Post.bind p).mono fun v H1 ⟨o, F1, μ1, S1, r1, t1, n1, p1⟩ => by
    obtain ⟨d, h1, p2⟩ := Post.rdh p1 t1.rel r1
    obtain ⟨k, hk, p3⟩ := Post.opt p2
    refine ⟨k, truV t1.rel.sub h1 hk, ?_⟩
    cases k with
    | true => exact Post.keepO p3 t1.rel r1
    | false => exact ⟨F1, μ1, S1, t1.rel, p3⟩⟩
theorem se_not (ha : PE X a (tE (wd X C) E ma)) : PE X (.UnaryOp .Not a pos) (tE (wd X C) E (mNot ma)) :=
  peW (pe_notT ha) fun σ H Q ⟨F, μ, S, R, p⟩ => ⟨F, μ, S, R, (Post.bind p).mono fun v H1 ⟨o, F1, μ1, S1, r1, t1, n1, p1⟩ => by
    obtain ⟨d, h1, p2⟩ := Post.rdh p1 t1.rel r1
    obtain ⟨k, hk, p3⟩ := Post.opt p2
    exact ⟨k, truV t1.rel.sub h1 hk, Post.retV p3 t1.rel (.bl _)⟩⟩
theorem se_neg (ha : PE X a (tE (wd X C) E ma)) : PE X (.UnaryOp .USub a pos) (tE (wd X C) E (mNeg ma)) :=
  peW (pe_un un_neg ha) fun σ H Q ⟨F, μ, S, R, p⟩ => ⟨F, μ, S, R, (Post.bind p).mono fun v H1 ⟨o, F1, μ1, S1, r1, t1, n1, p1⟩ => by
    obtain ⟨d, h1, p2⟩ := Post.rd p1 t1.rel r1
    cases d with
    | int i => exact ⟨i, h1.int, Post.retV p2 t1.rel (.int _)⟩
    | _ => exact (Post.fail p2).elim⟩
theorem se_ife {nc : M Bool} (hc : PT X c (tT (wd X C) E nc)) (ha : PE X a (tE (wd X C) E ma)) (hb : PE X b (tE (wd X C) E mb)) : PE X (.IfExp c a b pos) (tE (wd X C) E (mIfe nc ma mb)) :=
  peW (pe_ifExp hc ha hb) fun σ H Q ⟨F, μ, S, R, p⟩ => ⟨F, μ, S, R, (Post.bind p).mono fun k H1 ⟨k', F1, μ1, S1, r1, t1, n1, p1⟩ => by
    cases r1
    cases k with
    | true => exact ⟨F1, μ1, S1, t1.rel, p1⟩
    | false => exact ⟨F1, μ1, S1, t1.rel, p1⟩⟩
theorem se_chn {op op' : Cm} (hu : X.A.units + 66 < cLine) (hm : lastMarks [op.py, op'.py] [b, c] = false) (ha : PE X a (tE (wd X C) E ma)) (hb : PE X b (tE (wd X C) E mb)) (hc : PE X c (tE (wd X C) E mc)) :
    PE X (.Compare a [op.py, op'.py] [b, c] pos) (tE (wd X C) E (mChn op op' ma mb mc)) :=
  peW (pe_chain (op_cm hu op) (op_cm hu op') ha hb hc hm) fun σ H Q h => chn h
where
  chn {σ : L2.St} {H : Hp} {Q : VK} (h : tE (wd X C) E (mChn op op' ma mb mc) σ H Q) : tChain (rCm X C op) (rCm X C op') (tE (wd X C) E ma) (tE (wd X C) E mb) (tE (wd X C) E mc) σ H Q := by
    obtain ⟨F, μ, S, R, p⟩ := h
    refine ⟨F, μ, S, R, (Post.bind p).mono fun u H1 ⟨x, F1, μ1, S1, r1, t1, n1, p1⟩ => ⟨F1, μ1, S1, t1.rel, (Post.bind p1).mono fun v H2 ⟨y, F2, μ2, S2, r2, t2, n2, p2⟩ => ?_⟩⟩
    have p3 := Post.bind (Rα := OR (wd X C)) p2
    have r1' := r1.step t2 n2
    have p4 : Post (wd X C) E (OR (wd X C)) (Vi.bind (rdh x) fun d => Vi.bind (rdh y) fun e => cmp op d e) F2 μ2 S2 σ H2 fun z H3 => ∃ k, z = .bl k ∧ (if k = true then tE (wd X C) E mc σ H3 fun w' H4 => rCm X C op' v w' H4 Q else Q (.bl false) H3) := p3.mono fun z H3 ⟨r, F3, μ3, S3, r3, t3, n3, p4⟩ => by
      cases r with
      | v d =>
        cases d with
        | bl k =>
          cases r3
          cases k with
          | false => exact ⟨false, rfl, Post.retV p4 t3.rel (.bl false)⟩
          | true =>
            refine ⟨true, rfl, F3, μ3, S3, t3.rel, (Post.bind p4).mono fun w' H4 ⟨zz, F4, μ4, S4, r4, t4, n4, p5⟩ => ?_⟩
            obtain ⟨d, h1, p6⟩ := Post.rdh p5 t4.rel ((r2.step t3 n3).step t4 n4)
            obtain ⟨e, h2, p7⟩ := Post.rdh p6 t4.rel r4
            exact k_cm op' t4.rel h1 h2 p7
        | _ => exact p4.elim
      | _ => exact p4.elim
    obtain ⟨d, h1, p5⟩ := Post.rdh p4 t2.rel r1'
    obtain ⟨e, h2, p6⟩ := Post.rdh p5 t2.rel r2
    exact k_cm op t2.rel h1 h2 p6

/-! ### places, parts -/
def rGetK (X : Cx) : R2 := fun x y H Q => ∃ a kvs k v, x = .ref a ∧ KD X H a kvs ∧ y = kV k ∧ valV kvs k = some v ∧ Q v H
theorem ix_K : IxR X (rGetK X) := by
  intro value slice pins s σ H x y v u Q I rx ry h hs
  obtain ⟨a, kvs, k, z, rfl, hR, rfl, hv, q⟩ := h
  cases rx
  obtain ⟨hd, _, vs, rel, dd⟩ := Inv.rdK I hR
  obtain ⟨w', hw, rw'⟩ := RelO.some_of (v := z) (o := valueAt vs k) (by rw [← hv]; exact rel.val k)
  exact subscriptTail_builtinR dd.typeIs PySem.F.slot_dict_getitem.lookup (wpAny_getItem_of (kV_is ry) dd.mapOf hw ⟨rfl, z, H, I.tok _, rw', q⟩) hs
def rGetN (X : Cx) (C : Cc) : R2 := fun x y H Q => ∃ a b F μ k key ks us xs c u v, x = .ref a ∧ y = .ref b ∧ Sub F H ∧ DR (wd X C) F μ k (.ref b) ∧ k.nk = some key ∧ key.depth ≤ 8 ∧ NDx X H a xs ∧ DRn (wd X C) F μ ks us xs ∧ atKey xs key = some (c, u) ∧ RelV v u ∧ Q v H
theorem ix_N (hu : X.A.units + 66 < cLine) : IxR X (rGetN X C) := by
  intro value slice pins s σ H x y v u Q I rx ry h hs
  obtain ⟨a, b, F, μ, k, key, ks, us, xs, c, u', v', rfl, rfl, hsub, dr, hk, hd, hR, rn, hat, rv, q⟩ := h
  cases rx; cases ry
  obtain ⟨_, _, h2, _⟩ := Inv.rdX I hsub hR rn
  have room : (nestedKind X.prog X.w).room X.A.in1 := by show X.A.units + 1 + 8 < cLine; omega
  exact subscriptTail_builtinR h2.typeIs PySem.F.slot_dict_getitem.lookup (wpAny_getItem_heap room ⟨DR.isKey I hsub dr rfl hk, hd⟩ h2 hat ⟨rfl, v', H, I.tok _, rv, q⟩) hs
abbrev rIdx (X : Cx) (C : Cc) : R2 := fun x y H Q => rIx X.K x y H Q ∨ rGetK X x y H Q ∨ rGetN X C x y H Q
theorem ix_all (hu : X.A.units + 66 < cLine) : IxR X (rIdx X C) := ix_seq.or (ix_K.or (ix_N hu))
theorem atI_rel {W : Wd} {F : Hp} {μ : List Addr} {xs : List D} {vs : List V} {i : Int} {d : D} (r : DRs W F μ xs vs) (h : atI xs i = some d) : ∃ v, atI vs i = some v ∧ DR W F μ d v := by
  unfold atI at h ⊢
  rw [← r.length]
  cases e : ixN xs.length i with
  | none => rw [e] at h; cases h
  | some j =>
    rw [e] at h
    exact r.get h
theorem k_idx {F : Hp} {μ : List Addr} {S : St} {σ : L2.St} {H : Hp} {Q : VK} {d e : D} {u v : V} (R : Rel (wd X C) F μ S σ H) (h1 : LR (wd X C) F μ H d u) (h2 : LR (wd X C) F μ H e v) (p : Post (wd X C) E (OR (wd X C)) (idxD d e) F μ S σ H Q) : rIdx X C u v H Q := by
  unfold idxD at p
  split at p
  · obtain ⟨x, hx, p⟩ := Post.opt p
    obtain ⟨a, vs, rfl, s1, _, r1⟩ := h1.tup R.sub
    obtain ⟨w, hw, rw'⟩ := atI_rel r1 hx
    exact .inl (.inr (.inl ⟨a, vs, _, w, rfl, h2.int, s1, hw, Post.retV p R rw'⟩))
  · obtain ⟨x, hx, p⟩ := Post.opt p
    obtain ⟨a, vs, rfl, s1, r1⟩ := h1.lst R.sub
    obtain ⟨w, hw, rw'⟩ := atI_rel r1 hx
    exact .inl (.inl ⟨a, vs, _, w, rfl, h2.int, .inl s1, hw, Post.retV p R rw'⟩)
  · split at p
    · rename_i hl
      obtain ⟨x, hx, p⟩ := Post.opt p
      exact .inl (.inr (.inr ⟨_, _, x, h1.str, h2.int, hl, hx, Post.retV p R (.str _)⟩))
    · exact (Post.fail p).elim
  · split at p
    · rename_i ks us hk
      obtain ⟨x, hx, p2⟩ := Post.opt p
      rcases keyOk_case hk with ⟨key, ek, hp⟩ | ⟨ys, key, rfl, ek, hd, hp⟩
      · obtain ⟨a, kvs, rfl, hR, r⟩ := LR.dctK h1 R.sub hp
        rcases DRk.get ek r with ⟨g1, _⟩ | ⟨d', w, g1, g2, g3⟩
        · rw [hx] at g1; cases g1
        · rw [hx] at g1; cases g1
          exact .inr (.inl ⟨a, kvs, key, w, rfl, hR, kV_of ek h2, g2, Post.retV p2 R g3⟩)
      · obtain ⟨a, xs, rfl, hR, r⟩ := LR.dctN h1 R.sub hp
        obtain ⟨b, vs, rfl, _, f1, r1⟩ := h2.tup R.sub
        rcases DRn.get ek r with ⟨g1, _⟩ | ⟨d', c, u, w, g1, g2, g3, g4⟩
        · rw [hx] at g1; cases g1
        · rw [hx] at g1; cases g1
          exact .inr (.inr ⟨a, b, F, μ, .tup ys, key, ks, us, xs, c, u, w, rfl, rfl, R.sub, .tup f1 r1, ek, hd, hR, r, g2, g3, Post.retV p2 R g4⟩)
    · exact (Post.fail p).elim
  · exact (Post.fail p).elim
theorem opBin2 {r : R2} {k : D → D → M O}
    (hk : ∀ {F μ S σ H Q d e u v}, Rel (wd X C) F μ S σ H → LR (wd X C) F μ H d u → LR (wd X C) F μ H e v → Post (wd X C) E (OR (wd X C)) (k d e) F μ S σ H Q → r u v H Q) {σ : L2.St} {H : Hp} {Q : VK}
    (h : tE (wd X C) E (bind ma fun x => bind mb fun y => bind (rdh x) fun d => bind (rd y) fun e => k d e) σ H Q) : tOp r (tE (wd X C) E ma) (tE (wd X C) E mb) σ H Q := by
  obtain ⟨F, μ, S, R, p⟩ := h
  refine ⟨F, μ, S, R, (Post.bind p).mono fun u H1 ⟨x, F1, μ1, S1, r1, t1, n1, p1⟩ => ⟨F1, μ1, S1, t1.rel, (Post.bind p1).mono fun v H2 ⟨y, F2, μ2, S2, r2, t2, n2, p2⟩ => ?_⟩⟩
  obtain ⟨d, h1, p3⟩ := Post.rdh p2 t2.rel (r1.step t2 n2)
  obtain ⟨e, h2, p4⟩ := Post.rd p3 t2.rel r2
  exact hk t2.rel h1 h2 p4
theorem se_idx (hu : X.A.units + 66 < cLine) (hs : PlainIx b) (ha : PE X a (tE (wd X C) E ma)) (hb : PE X b (tE (wd X C) E mb)) : PE X (.Subscript a b pos) (tE (wd X C) E (mIdx ma mb)) :=
  peW (pe_ix (ix_all (C := C) hu) ha hb hs) fun _ _ _ h => opBin2 (fun R h1 h2 p => k_idx R h1 h2 p) h
end
end Vi
/-! text Vi12 -/
set_option Elab.async false
set_option linter.all false
set_option maxRecDepth 100000
set_option maxHeartbeats 1000000
/-! Vi, part 12: parts, displays, calls of defs. -/
namespace Vi
open PySem PySem.Spec PyProof.Rows L2

def RP : RT (Option Int) (Option Int) := fun _ _ _ _ _ _ a b => a = b
instance : Bk RP := ⟨fun h _ => h⟩
section
variable {X : Cx} {C : Cc} {E : XK} {e a b c : Expr} {es : List Expr} {m ma mb mc : M O} {pos p2 : Pos}
theorem so_none : PO X none (tG (wd X C) E RP mNoPart) := ⟨fun pins s σ H Q I ⟨F, μ, S, R, p⟩ => po_none.run pins s σ H Q I (Post.ret p R (b := none) rfl)⟩
theorem so_some (h : PE X e (tE (wd X C) E m)) : PO X (some e) (tG (wd X C) E RP (mPart m)) := ⟨fun pins s σ H Q I ⟨F, μ, S, R, p⟩ => (po_some h).run pins s σ H Q I
  ⟨F, μ, S, R, (Post.bind p).mono fun v H1 ⟨o, F1, μ1, S1, r1, t1, n1, p1⟩ => by
    obtain ⟨d, h1, p3⟩ := Post.rd p1 t1.rel r1
    cases d with
    | int i => exact ⟨i, h1.int, Post.ret p3 t1.rel (b := some i) rfl⟩
    | _ => exact p3.elim⟩⟩
abbrev rSli (K : PySem.W.Frag) : V → Option Int → Option Int → Hp → VK → Prop := fun x lo hi H Q => rSlL K x lo hi H Q ∨ rSlA K x lo hi H Q
theorem cut_rel {W : Wd} {F : Hp} {μ : List Addr} {xs : List D} {vs : List V} {lo hi : Option Int} (r : DRs W F μ xs vs) : DRs W F μ (cut xs lo hi) (cutV vs lo hi) := by
  unfold cut cutV
  rw [r.length]
  exact DRs.take _ (DRs.drop _ r)
theorem cut_all {xs : List D} {lo hi : Option Int} {n : Nat} (hn : n = xs.length) (h : HT.sIx n 0 lo = 0 ∧ HT.sIx n n hi = n) : cut xs lo hi = xs := by
  subst hn
  unfold cut
  rw [h.1, h.2]
  simp
theorem k_slice {F : Hp} {μ : List Addr} {S : St} {σ : L2.St} {H : Hp} {Q : VK} {d : D} {u : V} {lo hi : Option Int} (R : Rel (wd X C) F μ S σ H) (h1 : LR (wd X C) F μ H d u) (p : Post (wd X C) E (OR (wd X C)) (slice lo hi d) F μ S σ H Q) : rSli X.K u lo hi H Q := by
  unfold slice at p
  split at p
  · obtain ⟨a, vs, rfl, s1, f1, r1⟩ := h1.tup R.sub
    refine .inr ⟨a, vs, rfl, s1, fun z => ?_, fun _ q hq => Post.newT p R (cut_rel r1) hq⟩
    rw [cut_all r1.length.symm z] at p
    exact Post.retV p R (.tup f1 r1)
  · obtain ⟨a, vs, rfl, s1, r1⟩ := h1.lst R.sub
    exact .inl ⟨a, vs, rfl, .inl s1, fun q hq => Post.newL p R (cut_rel r1) hq⟩
  · exact (Post.fail p).elim
theorem se_sli {lo hi : Option Expr} {ml mh : M (Option Int)} (ha : PE X a (tE (wd X C) E ma)) (hl : PO X lo (tG (wd X C) E RP ml)) (hh : PO X hi (tG (wd X C) E RP mh)) : PE X (.Subscript a (.Slice lo hi none p2) pos) (tE (wd X C) E (mSli ma ml mh)) :=
  peW (pe_slice (sl_list.or sl_tupA) ha hl hh) fun σ H Q ⟨F, μ, S, R, p⟩ => ⟨F, μ, S, R, (Post.bind p).mono fun u H1 ⟨x, F1, μ1, S1, r1, t1, n1, p1⟩ => ⟨F1, μ1, S1, t1.rel, (Post.bind p1).mono fun l H2 ⟨l', F2, μ2, S2, r2, t2, n2, p2⟩ =>
    ⟨F2, μ2, S2, t2.rel, (Post.bind p2).mono fun h H3 ⟨h', F3, μ3, S3, r3, t3, n3, p3⟩ => by
      cases r2; cases r3
      obtain ⟨d, h1, p4⟩ := Post.rdh p3 t3.rel ((r1.step t2 n2).step t3 n3)
      exact k_slice t3.rel h1 p4⟩⟩⟩
theorem se_rev {k : Nat} {p1 p3 : Pos} (ha : PE X a (tE (wd X C) E ma)) : PE X (.Subscript a (.Slice none none (some (.UnaryOp .USub (.Constant (.int 1) k p1) p2)) p3) pos) (tE (wd X C) E (mRev ma)) :=
  peW (pe_revL ha) fun σ H Q ⟨F, μ, S, R, p⟩ => ⟨F, μ, S, R, (Post.bind p).mono fun u H1 ⟨x, F1, μ1, S1, r1, t1, n1, p1⟩ => by
    obtain ⟨d, h1, p3⟩ := Post.rdh p1 t1.rel r1
    cases d with
    | lst xs =>
      obtain ⟨q, vs, rfl, s1, r1⟩ := h1.lst t1.rel.sub
      exact ⟨q, vs, rfl, .inl s1, fun z hz => Post.newL p3 t1.rel r1.reverse hz⟩
    | _ => exact (Post.fail p3).elim⟩

/-! ### items -/
theorem sa_nil : PA X [] (tDs (wd X C) E mNil) := paW pa_nil fun σ H Q ⟨F, μ, S, R, p⟩ => Post.ret p R (b := []) DRs.nil
theorem sa_cons {mr : M (List D)} (ha : PE X a (tE (wd X C) E ma)) (hr : PA X es (tDs (wd X C) E mr)) (hs : starEach (a :: es) X.env = (false, eval a X.env) :: starEach es X.env) : PA X (a :: es) (tDs (wd X C) E (mCons ma mr)) :=
  paW (pa_cons (pe_esc ha) hr hs) fun σ H Q ⟨F, μ, S, R, p⟩ => ⟨F, μ, S, R, (Post.bind p).mono fun v H1 ⟨d, F1, μ1, S1, r1, t1, n1, p1⟩ => ⟨F1, μ1, S1, t1.rel, (Post.bind p1).mono fun vs H2 ⟨ds, F2, μ2, S2, r2, t2, n2, p2⟩ =>
    Post.ret p2 t2.rel (b := v :: vs) (.cons (DR.mono t2.sub t2.pre r1) r2)⟩⟩
def mStar (a : M O) (b : M (List D)) : M (List D) := bind (bind (bind a esc) starD) fun xs => bind b fun ds => ret (xs ++ ds)
theorem sa_star {mr : M (List D)} {p : Pos} (ha : PE X a (tE (wd X C) E ma)) (hr : PA X es (tDs (wd X C) E mr)) : PA X (.Starred a p :: es) (tDs (wd X C) E (mStar ma mr)) :=
  paW (StX.pa_star (pe_esc ha) hr rfl) fun σ H Q ⟨F, μ, S, R, p⟩ => by
    have e : mStar ma mr = Vi.bind (Vi.bind ma esc) fun d => Vi.bind (starD d) fun xs => Vi.bind mr fun ds => ret (xs ++ ds) := by
      funext s
      unfold mStar Vi.bind
      cases ma s with
      | fail => rfl
      | exc c d s' => rfl
      | ok o s1 => dsimp only; cases esc o s1 <;> rfl
    rw [e] at p
    refine ⟨F, μ, S, R, (Post.bind p).mono fun v H1 ⟨d, F1, μ1, S1, r1, t1, n1, p1⟩ => ?_⟩
    have fin : ∀ {xs : List D} {vs : List V} , DRs (wd X C) F1 μ1 xs vs → Post (wd X C) E (RDs (wd X C)) (Vi.bind mr fun ds => ret (xs ++ ds)) F1 μ1 S1 σ H1 Q → tDs (wd X C) E mr σ H1 fun ys H2 => Q (vs ++ ys) H2 := fun {xs vs} r p => ⟨F1, μ1, S1, t1.rel, (Post.bind p).mono fun ys H2 ⟨ds, F2, μ2, S2, r2, t2, n2, p2⟩ =>
      Post.ret p2 t2.rel (b := vs ++ ys) ((DRs.mono t2.sub t2.pre r).append r2)⟩
    cases d with
    | tup xs =>
      obtain ⟨a, vs, rfl, s1, _, r⟩ := LR.tup (.inl r1) t1.rel.sub
      exact ⟨a, vs, rfl, .inl s1, fin r p1⟩
    | lst xs =>
      obtain ⟨a, vs, rfl, s1, r⟩ := LR.lst (.inl r1) t1.rel.sub
      exact ⟨a, vs, rfl, .inr (.inl s1), fin r p1⟩
    | _ => exact p1.elim
theorem se_tup {k : Nat} {mr : M (List D)} (h : PA X es (tDs (wd X C) E mr)) : PE X (.Tuple es k pos) (tE (wd X C) E (mTup mr)) :=
  peW (pe_tup h) fun σ H Q ⟨F, μ, S, R, p⟩ => ⟨F, μ, S, R, (Post.bind p).mono fun vs H1 ⟨ds, F1, μ1, S1, r1, t1, n1, p1⟩ => by
    split at p1
    · rename_i hl
      exact ⟨by rw [← DRs.length r1]; exact hl, fun q hq => Post.newT p1 t1.rel r1 hq⟩
    · exact (Post.fail p1).elim⟩
theorem se_lst {mr : M (List D)} (h : PA X es (tDs (wd X C) E mr)) : PE X (.List es pos) (tE (wd X C) E (mLst mr)) :=
  peW (pe_lst h) fun σ H Q ⟨F, μ, S, R, p⟩ => ⟨F, μ, S, R, (Post.bind p).mono fun vs H1 ⟨ds, F1, μ1, S1, r1, t1, n1, p1⟩ => by
    split at p1
    · rename_i hl
      exact ⟨by rw [← DRs.length r1]; exact hl, fun q hq => Post.newL p1 t1.rel r1 hq⟩
    · exact (Post.fail p1).elim⟩
end

/-! ### calls of defs -/
inductive RC where
  | ok (d : D) (own : Bool) (h : List D) | exc (c : Nat) (d : D) (h : List D) | fail
abbrev Cf := List D → List D → RC
def out (d : D) : Bool → O
  | true => .w d
  | false => .v d
def mCallC (cf : Cf) (ds : List D) : M O := fun s => match cf ds s.h with
  | .ok d own h' => .ok (out d own) { s with h := h' }
  | .exc c d h' => .exc c d { s with h := h' }
  | .fail => .fail
def mCall (n : Nat) (cf : Cf) (m : M (List D)) : M O := bind m fun ds => if ds.length = n then mCallC cf ds else fail
/-- Vi's own objects alone -/
abbrev S0 (h : List D) : St := ⟨[], h⟩
/-- what a def promises: what Vi says of it -/
def spF (W : Wd) (n : Nat) (cf : Cf) : Sp := fun vs H Q E => vs.length = n ∧ ∃ F μ ds h, Rel W F μ (S0 h) [] H ∧ DRs W F μ ds vs ∧ Post W E (OR W) (mCallC cf ds) F μ (S0 h) [] H Q
section
variable {W : Wd} {E : XK} {F F' : Hp} {μ μ' : List Addr} {S : St} {σ : L2.St} {H H' : Hp} {h' : List D}
theorem no_own {h : List D} {a : Addr} : ¬ Own (S0 h) [] a := fun ⟨i, d, e, _⟩ => by simp at e
theorem Rel.bare (R : Rel W F μ S σ H) : Rel W F μ (S0 S.h) [] H :=
  ⟨rfl, R.sub, fun i d e => by simp at e, fun i d e => by simp at e, fun i j d e a e1 => by simp at e1, R.hl, R.hp, R.inj, R.tab⟩
theorem Step.frame (R : Rel W F μ S σ H) (t : Step W F μ (S0 S.h) [] H F' μ' (S0 h') [] H') : Step W F μ S σ H F' μ' { S with h := h' } σ H' := by
  have own : ∀ a, Own S σ a → ∀ u, H a = some u → NT u → a ∉ μ → H' a = some u := fun a _ u e nt n => t.keep a u e nt n no_own
  refine ⟨t.sub, t.pre, ⟨R.len, t.rel.sub, fun i d e => ?_, fun i d e => ?_, R.apart, t.rel.hl, t.rel.hp, t.rel.inj, t.rel.tab⟩, fun a u e nt n _ => t.keep a u e nt n no_own, t.trk, fun a h => .inl h, t.fr, fun a h => ?_⟩
  · obtain ⟨v, h1, h2⟩ := R.sl i d e; exact ⟨v, h1, h2.mono t.sub t.pre⟩
  · obtain ⟨a, h1, h2, h3, h4⟩ := R.ow i d e
    obtain ⟨u, hu⟩ := Option.ne_none_iff_exists'.mp h2.trk
    refine ⟨a, h1, h2.mono t.sub t.pre ((t.keep a u hu (h2.nt hu) h3 no_own).trans hu.symm), fun z => ?_, ?_⟩
    · rcases t.fr a z with z | z
      · exact h3 z
      · exact h2.trk z
    · rcases t.fnew a h4 with z | z | z | z
      · exact z
      · exact absurd z h2.trk
      · exact absurd z no_own
      · exact absurd z h2.nnl
  · rcases t.fnew a h with z | z | z | z
    · exact .inl z
    · exact .inr (.inl z)
    · exact absurd z no_own
    · exact .inr (.inr (.inr z))
theorem call_sp {n : Nat} {cf : Cf} {ds : List D} {vs : List V} {Q : VK} (R : Rel W F μ S σ H) (r : DRs W F μ ds vs) (hn : ds.length = n) (p : Post W E (OR W) (mCallC cf ds) F μ S σ H Q) : spF W n cf vs H Q E := by
  refine ⟨by rw [← r.length]; exact hn, F, μ, ds, S.h, Rel.bare R, r, ?_⟩
  unfold Post mCallC at p ⊢
  cases e : cf ds S.h with
  | fail => rw [e] at p; exact p.elim
  | exc c d h' =>
    rw [e] at p
    show ExOk W E F μ (S0 S.h) [] H c d (S0 h')
    intro F' μ' H' dx v t h1 h2
    exact p F' μ' H' dx v (Step.frame R t) h1 h2
  | ok d own h' =>
    rw [e] at p
    intro F' μ' v H' t n r
    refine p F' μ' v H' (Step.frame R t) (fun i z => z) ?_
    cases own with
    | false => exact r
    | true =>
      obtain ⟨a, h1, h2, h3, h4, h5, h6⟩ := r
      exact ⟨a, h1, h2, h3, h4, fun z => R.ownTrk z h6, h6⟩
end
section
variable {X : Cx} {C : Cc} {CX : CXT} {k n : Nat} {f : Addr} {fd : FuncData} {ps : List Str} {cf : Cf} {E : XK} {x : Str} {p pos : Pos} {e : Expr} {es : List Expr} {m : M (List D)}
theorem se_call (Fn : FnOk X.prog X.w X.K X.mg X.base CX k f fd ps (spF (wd X C) n cf)) (hr : Room k X.A) (hg : Gl X x) (hm : X.mg x = some (.ref f)) (hk : PySem.W.keepIn X.K (.ref f) = true) (hb : Binds X.K fd ps []) (hx : Passes CX X E)
    (ha : PA X (e :: es) (tDs (wd X C) E m)) (hdb : (x == ("__debug__" : Str)) = false) (he : starEach (e :: es) X.env = (false, eval e X.env) :: starEach es X.env) (hpl : (backTo pos (starEach es X.env)).any (·.1) = false) :
    PE X (.Call (.Name x p) (e :: es) [] pos) (tE (wd X C) E (mCall n cf m)) :=
  peW (pe_call Fn hr hg hm hk hb .nil hx ha hdb he hpl) fun σ H Q ⟨F, μ, S, R, p⟩ => ⟨F, μ, S, R, (Post.bind p).mono fun vs H1 ⟨ds, F1, μ1, S1, r1, t1, n1, p1⟩ => by
    rw [List.append_nil]
    split at p1
    · exact call_sp t1.rel r1 (by assumption) p1
    · exact (Post.fail p1).elim⟩
theorem se_call0 (Fn : FnOk X.prog X.w X.K X.mg X.base CX k f fd ps (spF (wd X C) n cf)) (hr : Room k X.A) (hg : Gl X x) (hm : X.mg x = some (.ref f)) (hk : PySem.W.keepIn X.K (.ref f) = true) (hb : Binds X.K fd ps []) (hx : Passes CX X E)
    (hdb : (x == ("__debug__" : Str)) = false) : PE X (.Call (.Name x p) [] [] pos) (tE (wd X C) E (mCall n cf mNil)) :=
  peW (pe_call0 Fn hr hg hm hk hb .nil hx hdb) fun σ H Q ⟨F, μ, S, R, p⟩ => by
    unfold mCall mNil at p
    have p1 : Post (wd X C) E (OR (wd X C)) (if ([] : List D).length = n then mCallC cf [] else fail) F μ S σ H Q := p
    show spF (wd X C) n cf [] H Q E
    split at p1
    · exact call_sp R .nil (by assumption) p1
    · exact (Post.fail p1).elim
end
end Vi
/-! text Vi13 -/
set_option Elab.async false
set_option linter.all false
set_option maxRecDepth 100000
set_option maxHeartbeats 1000000
/-! Vi, part 13: what is walked. -/
namespace Vi
open PySem PySem.Spec PyProof.Rows L2

/-- the walk J hands on these trees -/
def ItOk (W : Wd) (F : Hp) (μ : List Addr) (items : List D) (J : It) : Prop := ∀ (F2 : Hp) (μ2 : List Addr) (S2 : St) (σ2 : L2.St) (H2 : Hp), Sub F F2 → Pre μ μ2 → Rel W F2 μ2 S2 σ2 H2 → ∀ i : Nat,
  (i < items.length → J.go i H2 ∧ ∀ x H3, J.yld i H2 x H3 → ∃ d F3, items[i]? = some d ∧ Step W F2 μ2 S2 σ2 H2 F3 μ2 S2 σ2 H3 ∧ DR W F3 μ2 d x) ∧ (items.length ≤ i → J.stop i H2)
def RIt (W : Wd) : RT (List D) It := fun _ F μ _ _ _ items J => ItOk W F μ items J
abbrev tI (W : Wd) (E : XK) (m : M (List D)) : TI := fun σ H R => tG W E (RIt W) m σ H R
/-! ### the semantics -/
def chars (x : Str) : List D := x.cps.toList.map fun c => .str ⟨#[c]⟩
def itemsOf : D → M (List D)
  | .tup xs => ret xs
  | .lst xs => ret xs
  | .dct ks _ => ret ks
  | .str x => ret (chars x)
  | _ => fail
def mItems (m : M O) : M (List D) := bind (bind m esc) itemsOf
def rngs (lo c : Int) (n : Nat) : List D := (List.range n).map fun (i : Nat) => D.int (lo + (i : Int) * c)
def inRange (i : Int) : Bool := decide (-4611686018427387904 ≤ i) && decide (i < 4611686018427387904)
def rngD : List D → M (List D)
  | [.int j] => if inRange j then ret (rngs 0 1 j.toNat) else fail
  | [.int i, .int j] => if inRange i && inRange j then ret (rngs i 1 (j - i).toNat) else fail
  | [.int i, .int j, .int (-1)] => if decide (-1000000 ≤ i) && decide (i < 1000000) && decide (-1000000 ≤ j) && decide (j < 1000000) then ret (rngs i (-1) (i - j).toNat) else fail
  | _ => fail
def mRng (m : M (List D)) : M (List D) := bind m rngD
def zipD : List D → M (List D)
  | [.lst xs, .lst ys] => ret ((xs.zip ys).map fun p => .tup [p.1, p.2])
  | [.tup xs, .tup ys] => ret ((xs.zip ys).map fun p => .tup [p.1, p.2])
  | _ => fail
def mZip (m : M (List D)) : M (List D) := bind m zipD
def enum (i : Nat) : List D → List D
  | [] => []
  | x :: xs => .tup [.int (i : Int), x] :: enum (i + 1) xs
def enumD : List D → M (List D)
  | [.lst xs] => ret (enum 0 xs)
  | _ => fail
def mEnum (m : M (List D)) : M (List D) := bind m enumD
def itmD : D → M (List D)
  | .dct ks vs => if ks.length = vs.length then ret ((ks.zip vs).map fun p => .tup [p.1, p.2]) else fail
  | _ => fail
def valD : D → M (List D)
  | .dct ks vs => if ks.length = vs.length then ret vs else fail
  | _ => fail
def mItm (m : M O) : M (List D) := bind (bind m esc) itmD
def mVal (m : M O) : M (List D) := bind (bind m esc) valD

section
variable {X : Cx} {tg it : Expr}
theorem piW {w u : TI} (h : PI X tg it w) (f : ∀ σ H R, u σ H R → w σ H R) : PI X tg it u := ⟨fun pins s σ H R I hw => h.run pins s σ H R I (f σ H R hw)⟩
theorem piO {w u : TI} (h : PI X tg it w) (h' : PI X tg it u) : PI X tg it fun σ H R => w σ H R ∨ u σ H R := ⟨fun pins s σ H R I hw => hw.elim (h.run pins s σ H R I) (h'.run pins s σ H R I)⟩
end
section
variable {W : Wd} {F : Hp} {μ : List Addr}
theorem it_same {xs : List D} {J : It} (hgo : ∀ {F2 μ2 S2 σ2 H2}, Sub F F2 → Rel W F2 μ2 S2 σ2 H2 → ∀ i, i < xs.length → J.go i H2) (hst : ∀ {F2 μ2 S2 σ2 H2}, Sub F F2 → Rel W F2 μ2 S2 σ2 H2 → ∀ i, xs.length ≤ i → J.stop i H2)
    (hy : ∀ {F2 μ2 S2 σ2 H2}, Sub F F2 → Pre μ μ2 → Rel W F2 μ2 S2 σ2 H2 → ∀ i x H3, i < xs.length → J.yld i H2 x H3 → H3 = H2 ∧ ∃ d, xs[i]? = some d ∧ DR W F2 μ2 d x) : ItOk W F μ xs J := fun F2 μ2 S2 σ2 H2 hs hp R i =>
  ⟨fun hi => ⟨hgo hs R i hi, fun x H3 y => by
    obtain ⟨rfl, d, h1, h2⟩ := hy hs hp R i x H3 hi y
    exact ⟨d, F2, h1, Step.refl R, h2⟩⟩, hst hs R i⟩
theorem it_list {a : Addr} {xs : List D} {vs : List V} (h : Rd F a (.lst vs)) (r : DRs W F μ xs vs) : ItOk W F μ xs (Itl W.K a) :=
  it_same (fun hs R i hi => ⟨vs, vs[i]'(by rw [← r.length]; exact hi), .inl (R.sub.rd (hs.rd h)), List.getElem?_eq_getElem _⟩) (fun hs R i hi => ⟨vs, .inl (R.sub.rd (hs.rd h)), by rw [← r.length]; exact hi⟩)
    fun hs hp R i x H3 _ ⟨e, y⟩ => ⟨e, let ⟨d, h1, h2⟩ := r.getV (y vs (.inl (R.sub.rd (hs.rd h)))); ⟨d, h1, h2.mono hs hp⟩⟩
theorem it_tup {a : Addr} {xs : List D} {vs : List V} (h : SqT W.K F a vs) (r : DRs W F μ xs vs) : ItOk W F μ xs (Itt W.K a) :=
  it_same (fun hs R i hi => ⟨vs, vs[i]'(by rw [← r.length]; exact hi), R.sub.t (hs.t h), List.getElem?_eq_getElem _⟩) (fun hs R i hi => ⟨vs, R.sub.t (hs.t h), by rw [← r.length]; exact hi⟩)
    fun hs hp R i x H3 _ ⟨e, y⟩ => ⟨e, let ⟨d, h1, h2⟩ := r.getV (y vs (R.sub.t (hs.t h))); ⟨d, h1, h2.mono hs hp⟩⟩
theorem it_str {x : Str} : ItOk W F μ (chars x) (Its x) := by
  have hl : (chars x).length = x.cps.size := by simp [chars]
  refine it_same (fun hs R i hi => by rw [hl] at hi; exact hi) (fun hs R i hi => by rw [hl] at hi; exact hi) fun hs hp R i v H3 _ ⟨e, c, hc, hv⟩ => ⟨e, .str ⟨#[c]⟩, ?_, by rw [hv]; exact .str _⟩
  simp [chars, hc]
theorem rngs_get {lo c : Int} {n i : Nat} (h : i < n) : (rngs lo c n)[i]? = some (.int (lo + (i : Int) * c)) := by simp [rngs, h]
theorem it_rangeC {lo c : Int} {n : Nat} : ItOk W F μ (rngs lo c n) (Itc lo c n) := by
  have hl : (rngs lo c n).length = n := by simp [rngs]
  exact it_same (fun hs R i hi => by rw [hl] at hi; exact hi) (fun hs R i hi => by rw [hl] at hi; exact hi) fun hs hp R i v H3 hi y => ⟨y.1, .int (lo + (i : Int) * c), rngs_get (by rw [hl] at hi; exact hi), by rw [y.2]; exact .int _⟩
theorem it_range {lo : Int} {n : Nat} : ItOk W F μ (rngs lo 1 n) (Itr lo n) := by
  have hl : (rngs lo 1 n).length = n := by simp [rngs]
  exact it_same (fun hs R i hi => by rw [hl] at hi; exact hi) (fun hs R i hi => by rw [hl] at hi; exact hi) fun hs hp R i v H3 hi y => ⟨y.1, .int (lo + (i : Int)), by rw [rngs_get (by rw [hl] at hi; exact hi)]; simp, by rw [y.2]; exact .int _⟩
/-- pairs, each new -/
theorem it_pairs {ps : List (D × D)} {J : It} (hgo : ∀ {F2 μ2 S2 σ2 H2}, Sub F F2 → Rel W F2 μ2 S2 σ2 H2 → ∀ i, i < ps.length → J.go i H2) (hst : ∀ {F2 μ2 S2 σ2 H2}, Sub F F2 → Rel W F2 μ2 S2 σ2 H2 → ∀ i, ps.length ≤ i → J.stop i H2)
    (hy : ∀ {F2 μ2 S2 σ2 H2}, Sub F F2 → Pre μ μ2 → Rel W F2 μ2 S2 σ2 H2 → ∀ i x H3, i < ps.length → J.yld i H2 x H3 → ∃ T u v p, x = .ref T ∧ H2 T = none ∧ H3 = upd H2 T (.tup [u, v]) ∧ ps[i]? = some p ∧ DR W F2 μ2 p.1 u ∧ DR W F2 μ2 p.2 v) :
    ItOk W F μ (ps.map fun p => .tup [p.1, p.2]) J := fun F2 μ2 S2 σ2 H2 hs hp R i => by
  rw [List.length_map]
  refine ⟨fun hi => ⟨hgo hs R i hi, fun x H3 y => ?_⟩, hst hs R i⟩
  obtain ⟨T, u, v, p, rfl, hT, rfl, e, r1, r2⟩ := hy hs hp R i x H3 hi y
  have t := Step.newF R (o := .tup [u, v]) hT
  exact ⟨.tup [p.1, p.2], _, by rw [List.getElem?_map, e]; rfl, t, .tup (.inl (.inl upd_same)) (.cons (r1.mono t.sub t.pre) (.cons (r2.mono t.sub t.pre) .nil))⟩
theorem enum_eq : ∀ (i : Nat) (xs : List D), enum i xs = (xs.zipIdx i).map fun p => .tup [.int (p.2 : Int), p.1]
  | _, [] => rfl
  | i, x :: xs => by rw [enum, enum_eq (i + 1) xs]; rfl
theorem it_enum {a : Addr} {xs : List D} {vs : List V} (h : Rd F a (.lst vs)) (r : DRs W F μ xs vs) : ItOk W F μ (enum 0 xs) (Ite W.K a) := by
  have e : enum 0 xs = (xs.zipIdx.map fun p => (D.int (p.2 : Int), p.1)).map fun p => .tup [p.1, p.2] := by rw [enum_eq, List.map_map]; rfl
  rw [e]
  have hl : (xs.zipIdx.map fun p => (D.int (p.2 : Int), p.1)).length = vs.length := by rw [← r.length]; simp
  refine it_pairs (fun hs R i hi => ?_) (fun hs R i hi => ?_) fun hs hp R i x H3 hi y => ?_
  · rw [hl] at hi; exact ⟨vs, vs[i], .inl (R.sub.rd (hs.rd h)), List.getElem?_eq_getElem _⟩
  · rw [hl] at hi; exact ⟨vs, .inl (R.sub.rd (hs.rd h)), hi⟩
  · obtain ⟨T, u, e1, e2, e3, e4⟩ := y
    obtain ⟨d, h1, h2⟩ := r.getV (e4 vs (.inl (R.sub.rd (hs.rd h))))
    exact ⟨T, .int (i : Nat), u, (.int (i : Int), d), e1, e2, e3, by simp [List.getElem?_map, h1], .int _, h2.mono hs hp⟩
theorem zip_get {α β : Type} {xs : List α} {ys : List β} {i : Nat} {x : α} {y : β} (h1 : xs[i]? = some x) (h2 : ys[i]? = some y) : (xs.zip ys)[i]? = some (x, y) := by simp [List.getElem?_zip_eq_some, h1, h2]
theorem it_zip {a b : Addr} {xs ys : List D} {vs us : List V} (h : Rd F a (.lst vs)) (h' : Rd F b (.lst us)) (r : DRs W F μ xs vs) (r' : DRs W F μ ys us) : ItOk W F μ ((xs.zip ys).map fun p => .tup [p.1, p.2]) (Itz W.K a b) := by
  have l1 := r.length
  have l2 := r'.length
  refine it_pairs (fun hs R i hi => ?_) (fun hs R i hi => ?_) fun hs hp R i x H3 hi y => ?_
  · rw [List.length_zip] at hi
    exact ⟨vs, us, vs[i]'(by omega), us[i]'(by omega), .inl (R.sub.rd (hs.rd h)), .inl (R.sub.rd (hs.rd h')), List.getElem?_eq_getElem _, List.getElem?_eq_getElem _⟩
  · rw [List.length_zip] at hi
    exact ⟨vs, us, .inl (R.sub.rd (hs.rd h)), .inl (R.sub.rd (hs.rd h')), by omega⟩
  · obtain ⟨T, u, v, e1, e2, e3, e4, e5⟩ := y
    obtain ⟨d, h1, h2⟩ := r.getV (e4 vs (.inl (R.sub.rd (hs.rd h))))
    obtain ⟨d', h1', h2'⟩ := r'.getV (e5 us (.inl (R.sub.rd (hs.rd h'))))
    exact ⟨T, u, v, (d, d'), e1, e2, e3, zip_get h1 h1', h2.mono hs hp, h2'.mono hs hp⟩
theorem it_zipT {a b : Addr} {xs ys : List D} {vs us : List V} (h : SqT W.K F a vs) (h' : SqT W.K F b us) (r : DRs W F μ xs vs) (r' : DRs W F μ ys us) : ItOk W F μ ((xs.zip ys).map fun p => .tup [p.1, p.2]) (RZ.ItzT W.K a b) := by
  have l1 := r.length
  have l2 := r'.length
  refine it_pairs (fun hs R i hi => ?_) (fun hs R i hi => ?_) fun hs hp R i x H3 hi y => ?_
  · rw [List.length_zip] at hi
    exact ⟨vs, us, vs[i]'(by omega), us[i]'(by omega), R.sub.t (hs.t h), R.sub.t (hs.t h'), List.getElem?_eq_getElem _, List.getElem?_eq_getElem _⟩
  · rw [List.length_zip] at hi
    exact ⟨vs, us, R.sub.t (hs.t h), R.sub.t (hs.t h'), by omega⟩
  · obtain ⟨T, u, v, e1, e2, e3, e4, e5⟩ := y
    obtain ⟨d, h1, h2⟩ := r.getV (e4 vs (R.sub.t (hs.t h)))
    obtain ⟨d', h1', h2'⟩ := r'.getV (e5 us (R.sub.t (hs.t h')))
    exact ⟨T, u, v, (d, d'), e1, e2, e3, zip_get h1 h1', h2.mono hs hp, h2'.mono hs hp⟩
end

/-! ### a locked dict of either kind -/
structure Raw (o : Obj) (es : Array DictEntry) (ep : Nat) (kx vx : List V) : Prop where
  ex : o.ExactDict
  dat : o.data = .dict es ep
  kl : kx.length = es.size
  vl : vx.length = es.size
  k : ∀ (i : Nat) (x : V) (e : DictEntry), kx[i]? = some x → es[i]? = some e → RelV x e.key
  v : ∀ (i : Nat) (x : V) (e : DictEntry), vx[i]? = some x → es[i]? = some e → RelV x e.val
section
variable {W : Wd} {F : Hp} {μ : List Addr} {ks us : List D} {kvs : List (Key × V)} {xs : NX} {X : Cx} {C : Cc} {pins : List (Addr × Obj)} {σ : L2.St} {H : Hp} {s : Shared} {v : V}
theorem DRk.keys : ∀ {ks us : List D} {kvs : List (Key × V)}, DRk W F μ ks us kvs → DRs W F μ ks (kvs.map fun p => kV p.1) ∧ DRs W F μ us (kvs.map (·.2))
  | _, _, _, .nil => ⟨.nil, .nil⟩
  | _, _, _, .cons (k := k) e r t => ⟨.cons (by cases k <;> cases e <;> first | exact .int _ | exact .str _) (DRk.keys t).1, .cons r (DRk.keys t).2⟩
theorem DRn.keys : ∀ {ks us : List D} {xs : NX}, DRn W F μ ks us xs → DRs W F μ ks (xs.map fun x => .ref x.2.1) ∧ ∃ vx, DRs W F μ us vx ∧ Paired RelV vx (xs.map (·.2.2))
  | _, _, _, .nil => ⟨.nil, [], .nil, .nil⟩
  | _, _, _, .cons e r rv r2 t => by
    obtain ⟨h1, vx, h2, h3⟩ := DRn.keys t
    exact ⟨.cons r h1, _, .cons r2 h2, .cons rv h3⟩
theorem DR.raw (I : Inv X pins σ H s) (r : DR (wd X C) F μ (.dct ks us) v) (hs : Sub F H) : ∃ a o u es ep kx vx, v = .ref a ∧ F a = some (.frz o u) ∧ (a == sysModules) = false ∧ Raw o es ep kx vx ∧ DRs (wd X C) F μ ks kx ∧ DRs (wd X C) F μ us vx := by
  cases r with
  | dk hf hr =>
    rename_i kvs
    obtain ⟨o, hf⟩ := hf
    obtain ⟨h1, hg, hx, es, ep, vs, hdt, hsz, kv, hm⟩ := I.frzK (hs _ _ hf)
    obtain ⟨o', es', hg', _, hdt', _, hp, _⟩ := hm
    rw [hg] at hg'; cases hg'
    rw [hdt] at hdt'; cases hdt'
    have at_ : ∀ (i : Nat) (e : DictEntry), es[i]? = some e → ∃ k v u, kvs[i]? = some (k, v) ∧ keyIs k e.key = true ∧ e.val = u ∧ RelV v u := fun i e he => by
      have hi : i < kvs.length := by rw [← hsz]; exact (Array.getElem?_eq_some_iff.mp he).1
      obtain ⟨u, hu, ru⟩ := kv_get kv (i := i) (k := (kvs[i]).1) (v := (kvs[i]).2) (List.getElem?_eq_getElem hi)
      have q := hp.get? (e := e) (by simpa using he) hu
      exact ⟨_, _, u, List.getElem?_eq_getElem hi, q.1, q.2, ru⟩
    refine ⟨_, o, _, es, ep, _, _, rfl, hf, h1, ⟨hx, hdt, by simp [hsz], by simp [hsz], fun i x e hk he => ?_, fun i x e hk he => ?_⟩, (DRk.keys hr).1, (DRk.keys hr).2⟩
    · obtain ⟨k, v, u, e1, e2, e3, e4⟩ := at_ i e he
      rw [List.getElem?_map, e1] at hk; cases hk
      exact relV_key e2
    · obtain ⟨k, v, u, e1, e2, e3, e4⟩ := at_ i e he
      rw [List.getElem?_map, e1] at hk; cases hk
      rw [e3]; exact e4
  | dn hf hr =>
    obtain ⟨o, hf⟩ := hf
    obtain ⟨hd, ⟨h1, h2, h3, o', es, ep, hg', hx, hdt, he, hn⟩, _⟩ := I.hok _ _ (hs _ _ hf)
    rw [hd] at hg'; cases hg'
    obtain ⟨r1, vx, r2, pr⟩ := DRn.keys hr
    have hsz := size_of_entries he
    refine ⟨_, o, _, es, ep, _, vx, rfl, hf, h1, ⟨hx, hdt, by simp [hsz], by rw [Paired.length pr, List.length_map, hsz], fun i x e hk hq => ?_, fun i x e hk hq => ?_⟩, r1, r2⟩
    · have q := entry_at he i
      rw [hq] at q
      cases z : (_ : NX)[i]? with
      | none => rw [z] at q; cases q
      | some y =>
        rw [z] at q
        rw [List.getElem?_map, z] at hk; cases hk
        cases q
        exact rfl
    · have q := entry_at he i
      rw [hq] at q
      obtain ⟨b, hb, rb⟩ := L2.paired_get pr hk
      cases z : (_ : NX)[i]? with
      | none => rw [z] at q; cases q
      | some y =>
        rw [z] at q
        rw [List.getElem?_map, z] at hb; cases hb
        cases q
        exact rb
/-! ### walks through a locked dict -/
def gK (d : Addr) (o : Obj) (u : HO) (xs : List V) : It :=
  ⟨fun i H => H d = some (.frz o u) ∧ i < xs.length, fun i H x H' => H' = H ∧ xs[i]? = some x, fun i H => H d = some (.frz o u) ∧ xs.length ≤ i⟩
def gI (d : Addr) (o : Obj) (u : HO) (kx vx : List V) : It :=
  ⟨fun i H => H d = some (.frz o u) ∧ i < kx.length, fun i H x H' => ∃ T k v, kx[i]? = some k ∧ vx[i]? = some v ∧ x = .ref T ∧ H T = none ∧ H' = upd H T (.tup [k, v]), fun i H => H d = some (.frz o u) ∧ kx.length ≤ i⟩
end
section
variable {P : Program} {w : World} {K : PySem.W.Frag} {tg : Expr} {d : Addr} {o : Obj} {es : Array DictEntry} {ep : Nat} {u : HO} {kx vx : List V}
theorem Raw.at {h : Heap} (r : Raw o es ep kx vx) (e : h.get? d = some o) : h.DictRaw d es ep := ⟨o, e, r.ex, r.dat⟩
theorem frz_get {X : Cx} {pins : List (Addr × Obj)} {σ : L2.St} {H : Hp} {s : Shared} (I : Inv X pins σ H s) (h : H d = some (.frz o u)) : s.heap.get? d = some o := (I.hok d _ h).1
theorem gT_keys (it : Addr) (r : Raw o es ep kx vx) : Turn P w K tg (gK d o u kx) [it] it (fun i h => h.IsKeyIter it d i es.size ep) where
  mem := by simp
  obj := fun i h st b hb => by
    obtain rfl : b = it := by simpa using hb
    obtain ⟨oi, e, c, dd⟩ := st
    exact ⟨oi, e, fun v z => by rw [dd] at z; cases z⟩
  keep := fun i h h' st k => st.at fun oi e => k it (by simp) oi e
  item := by
    intro X hP hw hK hc i pins s σ H E I hf st ⟨hd, hi⟩
    subst hP hw hK
    obtain ⟨f0, f1, f2, f3, f4, f5⟩ := hf it (by simp)
    have hi' : i < es.size := r.kl ▸ hi
    refine wpAny_pyNext_keys_item_raw st (r.at (frz_get I hd)) hi' fun h' st' sb => ?_
    have I1 : Inv X pins σ H { s with heap := h' } := I.turned (t' := s.toks) (fun b ob hb e => (sb.2 b hb).trans e) f0 f1 f3 f4 f5
    obtain ⟨oi, e, c, dd⟩ := id st'
    exact ⟨_, rfl, go_of (s := { s with heap := h' }) e c dd (by decide) ⟨kx[i], H, I1, r.k i _ _ (List.getElem?_eq_getElem hi) (Array.getElem?_eq_getElem hi'), ⟨rfl, List.getElem?_eq_getElem hi⟩, st', fun b hb => (hf b hb).1⟩⟩
  done := by
    intro X hP hw hK hc i pins s σ H E I hf st ⟨hd, hi⟩
    subst hP hw hK
    obtain ⟨f0, f1, f2, f3, f4, f5⟩ := hf it (by simp)
    exact wpAny_pyNext_keys_end_raw (I.ok.hd hc) st (r.at (frz_get I hd)) (by rw [← r.kl]; exact hi) fun h' eb => ⟨rfl, I.turned (t' := s.toks) (fun b ob hb e => eb b ob hb e) f0 f1 f3 f4 f5⟩
  self := fun A i s Q E st h => by
    refine wpAny_pyIter_slot st.typeIs F.slot_dict_keyiterator_iter (wpAny_call_entry F.slot_dict_keyiterator_iter st.typeIs F.entry_dict_keyiterator_iter ?_ (F.args_dict_keyiterator_iter_1 _))
    show wpAny _ _ (PySem.ret (.ref it)) _ _ s
    exact wpAny_pure ⟨_, rfl, "dict_keyiterator", _, st.typeIs, F.slot_dict_keyiterator_next.lookup, h⟩
theorem gT_vals (it : Addr) (r : Raw o es ep kx vx) : Turn P w K tg (gK d o u vx) [it] it (fun i h => h.IsValIter it d i es.size ep) where
  mem := by simp
  obj := fun i h st b hb => by
    obtain rfl : b = it := by simpa using hb
    obtain ⟨oi, e, c, dd⟩ := st
    exact ⟨oi, e, fun v z => by rw [dd] at z; cases z⟩
  keep := fun i h h' st k => st.at fun oi e => k it (by simp) oi e
  item := by
    intro X hP hw hK hc i pins s σ H E I hf st ⟨hd, hi⟩
    subst hP hw hK
    obtain ⟨f0, f1, f2, f3, f4, f5⟩ := hf it (by simp)
    have hi' : i < es.size := r.vl ▸ hi
    refine wpAny_pyNext_values_item_raw st (r.at (frz_get I hd)) hi' fun h' st' sb => ?_
    have I1 : Inv X pins σ H { s with heap := h' } := I.turned (t' := s.toks) (fun b ob hb e => (sb.2 b hb).trans e) f0 f1 f3 f4 f5
    obtain ⟨oi, e, c, dd⟩ := id st'
    exact ⟨_, rfl, go_of (s := { s with heap := h' }) e c dd (by decide) ⟨vx[i], H, I1, r.v i _ _ (List.getElem?_eq_getElem hi) (Array.getElem?_eq_getElem hi'), ⟨rfl, List.getElem?_eq_getElem hi⟩, st', fun b hb => (hf b hb).1⟩⟩
  done := by
    intro X hP hw hK hc i pins s σ H E I hf st ⟨hd, hi⟩
    subst hP hw hK
    obtain ⟨f0, f1, f2, f3, f4, f5⟩ := hf it (by simp)
    exact wpAny_pyNext_values_end_raw (I.ok.hd hc) st (r.at (frz_get I hd)) (by rw [← r.vl]; exact hi) fun h' eb => ⟨rfl, I.turned (t' := s.toks) (fun b ob hb e => eb b ob hb e) f0 f1 f3 f4 f5⟩
  self := fun A i s Q E st h => wpAny_pyIter_valiter st h
theorem gT_items {elts : List Expr} {kk : Nat} {tpos : Pos} (it : Addr) (r : Raw o es ep kx vx) :
    Turn P w K (.Tuple elts kk tpos) (gI d o u kx vx) [it] it (fun i h => ∃ ok ov, IsItemIter h it d i es.size ep ok ov) where
  mem := by simp
  obj := fun i h st b hb => by
    obtain rfl : b = it := by simpa using hb
    obtain ⟨ok, ov, e⟩ := st
    exact ⟨_, e, fun v z => nomatch z⟩
  keep := fun i h h' st k => let ⟨ok, ov, e⟩ := st; ⟨ok, ov, k it (by simp) _ e⟩
  item := by
    intro X hP hw hK hc i pins s σ H E I hf st ⟨hd, hi⟩
    subst hP hw hK
    have hi' : i < es.size := r.kl ▸ hi
    have hiv : i < vx.length := r.vl ▸ hi'
    obtain ⟨ok, ov, he⟩ := st
    have hlt : it < s.heap.objs.size := Heap.lt_size he
    refine wpAny_pyNext_items_item_raw he (r.at (frz_get I hd)) hi' fun h' ho hT hz hk => ?_
    refine ⟨_, rfl, wpAny_letOwnedTupleGo_items (s := { s with heap := h' }) ho fun h'' he' sb => ?_⟩
    have hT2 : h''.get? s.heap.objs.size = some { cls := .type "tuple", data := .seq #[es[i].key, es[i].val] } := (sb.2 _ (Nat.ne_of_gt hlt)).trans hT
    have new : ObjOk X.prog X.w (upd H s.heap.objs.size (.tup [kx[i], vx[i]])) h'' s.heap.objs.size (.tup [kx[i], vx[i]]) :=
      ⟨by show 2 ≤ sizeLine; decide, [_, _], .cons (r.k i _ _ (List.getElem?_eq_getElem hi) (Array.getElem?_eq_getElem hi')) (.cons (r.v i _ _ (List.getElem?_eq_getElem hiv) (Array.getElem?_eq_getElem hi')) .nil), ⟨_, hT2, rfl, _, rfl⟩⟩
    have I1 : Inv X pins σ (upd H s.heap.objs.size (.tup [kx[i], vx[i]])) { s with heap := h'' } :=
      I.turnedNew (t' := s.toks) (ch := [it]) (fun b ob hb e => (sb.2 b (by simpa using hb)).trans (hk b ob (by simpa using hb) e)) hf (Nat.le_refl _) new
    refine ⟨.ref s.heap.objs.size, _, I1, rfl, ⟨_, _, _, List.getElem?_eq_getElem hi, List.getElem?_eq_getElem hiv, rfl, I.hok.fresh (Nat.le_refl _), rfl⟩, ⟨_, _, he'⟩, fun b hb => ?_⟩
    obtain rfl : b = it := by simpa using hb
    rw [upd_ne (Nat.ne_of_lt hlt)]
    exact (hf b (by simp)).1
  done := by
    intro X hP hw hK hc i pins s σ H E I hf st ⟨hd, hi⟩
    subst hP hw hK
    obtain ⟨f0, f1, f2, f3, f4, f5⟩ := hf it (by simp)
    obtain ⟨ok, ov, he⟩ := st
    exact wpAny_pyNext_items_end_raw (I.ok.hd hc) he (r.at (frz_get I hd)) (by rw [← r.kl]; exact hi) fun h' eb => ⟨rfl, I.turned (t' := s.toks) (fun b ob hb e => eb b ob hb e) f0 f1 f3 f4 f5⟩
  self := fun A i s Q E st h => let ⟨_, _, e⟩ := st; PySem.W.kcp_self e h
end
section
variable {W : Wd} {F : Hp} {μ : List Addr} {d : Addr} {o : Obj} {u : HO} {kx vx : List V} {ks us : List D}
theorem it_g (h : F d = some (.frz o u)) (r : DRs W F μ ks kx) : ItOk W F μ ks (gK d o u kx) :=
  it_same (fun hs R i hi => ⟨R.sub _ _ (hs _ _ h), by rw [← r.length]; exact hi⟩) (fun hs R i hi => ⟨R.sub _ _ (hs _ _ h), by rw [← r.length]; exact hi⟩)
    fun hs hp R i x H3 _ ⟨e, y⟩ => ⟨e, let ⟨d, h1, h2⟩ := r.getV y; ⟨d, h1, h2.mono hs hp⟩⟩
theorem it_gI (h : F d = some (.frz o u)) (r : DRs W F μ ks kx) (r' : DRs W F μ us vx) (hl : ks.length = us.length) : ItOk W F μ ((ks.zip us).map fun p => .tup [p.1, p.2]) (gI d o u kx vx) := by
  have l1 := r.length
  have l2 := r'.length
  refine it_pairs (fun hs R i hi => ?_) (fun hs R i hi => ?_) fun hs hp R i x H3 hi y => ?_
  · rw [List.length_zip] at hi
    exact ⟨R.sub _ _ (hs _ _ h), by omega⟩
  · rw [List.length_zip] at hi
    exact ⟨R.sub _ _ (hs _ _ h), by omega⟩
  · obtain ⟨T, k, v, e1, e2, e3, e4, e5⟩ := y
    obtain ⟨d, h1, h2⟩ := r.getV e1
    obtain ⟨d', h1', h2'⟩ := r'.getV e2
    exact ⟨T, k, v, (d, d'), e3, e4, e5, zip_get h1 h1', h2.mono hs hp, h2'.mono hs hp⟩
end
end Vi
/-! text Vi14 -/
set_option Elab.async false
set_option linter.all false
set_option maxRecDepth 100000
set_option maxHeartbeats 1000000
/-! Vi, part 14: the rules of what is walked. -/
namespace Vi
open PySem PySem.Spec PyProof.Rows L2

section
variable {α β γ δ : Type} {W : Wd} {E : XK} {F : Hp} {μ : List Addr} {S : St} {σ : L2.St} {H : Hp}
/-- bind, with what Vi gave -/
theorem Post.bindE {Rα : RT α β} {Rγ : RT γ δ} [Bk Rγ] {m : M α} {k : α → M γ} {Q : δ → Hp → Prop} (h : Post W E Rγ (Vi.bind m k) F μ S σ H Q) :
    Post W E Rα m F μ S σ H fun b H1 => ∃ a F1 μ1 S1, m S = .ok a S1 ∧ Rα H F1 μ1 S1 σ H1 a b ∧ Step W F μ S σ H F1 μ1 S1 σ H1 ∧ Ne S S1 ∧ Post W E Rγ (k a) F1 μ1 S1 σ H1 Q := by
  unfold Post Vi.bind at h
  unfold Post
  cases e : m S with
  | fail => rw [e] at h; exact h
  | exc c d S' => rw [e] at h; exact h
  | ok a S' =>
    rw [e] at h
    intro F' μ' b H' t n r
    refine ⟨a, F', μ', S', rfl, r, t, n, ?_⟩
    cases e2 : k a S' with
    | fail => simp only [e2] at h
    | exc c d S'' => simp only [e2] at h; exact fun F'' μ'' H'' dx v t2 => h F'' μ'' H'' dx v (t.trans t2)
    | ok c S'' => simp only [e2] at h; exact fun F'' μ'' b' H'' t2 n2 r2 => h F'' μ'' b' H'' (t.trans t2) (n.trans n2) (Bk.back r2 t.trk)
instance {W : Wd} : Bk (RIt W) := ⟨fun h _ => h⟩
end
section
variable {X : Cx} {C : Cc} {E : XK} {e tg : Expr} {es : List Expr} {m : M O} {ml : M (List D)} {pos p apos cpos tpos : Pos} {elts : List Expr} {kk : Nat}
theorem bind_ok {α β : Type} {m : M α} {k : α → M β} {S : St} {a : α} {S1 : St} (h : m S = .ok a S1) : Vi.bind m k S = k a S1 := by unfold Vi.bind; rw [h]
theorem bind_exc {α β : Type} {m : M α} {k : α → M β} {S : St} {c : Nat} {d : D} {S1 : St} (h : m S = .exc c d S1) : Vi.bind m k S = .exc c d S1 := by unfold Vi.bind; rw [h]
theorem bind_fail {α β : Type} {m : M α} {k : α → M β} {S : St} (h : m S = .fail) : Vi.bind m k S = .fail := by unfold Vi.bind; rw [h]
/-- a dict that is locked, as the layer tells it -/
theorem dr_keys {pins : List (Addr × Obj)} {s : Shared} {σ : L2.St} {H F : Hp} {μ : List Addr} {ks us : List D} {x : V} {v : Value} {R : It → Hp → Prop} (I : Inv X pins σ H s) (r : DR (wd X C) F μ (.dct ks us) x) (hs : Sub F H) (rv : RelV x v)
    (q : ∀ J, ItOk (wd X C) F μ ks J → R J H) : wpAny (model X.prog X.w) X.A (pyIter v) (PIE X pins σ tg R) X.xe s := by
  obtain ⟨a, o, u, es, ep, kx, vx, rfl, hf, h1, rw_, r1, r2⟩ := DR.raw I r hs
  obtain rfl : v = Value.ref a := rv
  exact wpAny_pyIter_dict_raw h1 (rw_.at (frz_get I (hs _ _ hf))) (pi_one (tk := s.toks) I _ (gT_keys _ rw_) ⟨_, Heap.get?_push_size _ rfl, rfl, rfl⟩ (q _ (it_g hf r1)))
theorem si_val (he : PE X e (tE (wd X C) E m)) : PI X tg e (tI (wd X C) E (mItems m)) := by
  have hd : PE X e (tD (wd X C) E (bind m esc)) := pe_esc he
  refine ⟨fun pins s σ H R I ⟨F, μ, S, Rl, p⟩ => ?_⟩
  have p1 := Post.bindE (Rα := RD (wd X C)) (m := bind m esc) (k := itemsOf) p
  cases e1 : bind m esc S with
  | fail => unfold Post at p1; rw [e1] at p1; exact p1.elim
  | exc c d S1 => exact (pi_list hd).run pins s σ H R I ⟨F, μ, S, Rl, by unfold Post at p1 ⊢; rw [e1] at p1 ⊢; exact p1⟩
  | ok d S1 =>
    cases d with
    | lst xs =>
      refine (pi_list hd).run pins s σ H R I ⟨F, μ, S, Rl, p1.mono fun v H1 ⟨d, F1, μ1, S1, e2, r1, t1, n1, p2⟩ => ?_⟩
      rw [e1] at e2; cases e2
      cases r1 with
      | lst h1 h2 => exact ⟨_, rfl, ⟨_, .inl (t1.rel.sub.rd h1)⟩, Post.ret p2 t1.rel (it_list h1 h2)⟩
    | tup xs =>
      refine (pi_tup hd).run pins s σ H R I ⟨F, μ, S, Rl, p1.mono fun v H1 ⟨d, F1, μ1, S1, e2, r1, t1, n1, p2⟩ => ?_⟩
      rw [e1] at e2; cases e2
      cases r1 with
      | tup h1 h2 => exact ⟨_, rfl, ⟨_, t1.rel.sub.t h1⟩, Post.ret p2 t1.rel (it_tup h1 h2)⟩
    | str x =>
      refine (pi_str hd).run pins s σ H R I ⟨F, μ, S, Rl, p1.mono fun v H1 ⟨d, F1, μ1, S1, e2, r1, t1, n1, p2⟩ => ?_⟩
      rw [e1] at e2; cases e2
      cases r1 with
      | str _ => exact ⟨_, rfl, Post.ret p2 t1.rel it_str⟩
    | dct ks us =>
      refine thn (hd.run pins s σ H _ I ⟨F, μ, S, Rl, p1⟩) fun v s1 ⟨x, H1, I1, rx, d, F1, μ1, S1, e2, r1, t1, n1, p2⟩ => ?_
      rw [e1] at e2; cases e2
      exact dr_keys I1 r1 t1.rel.sub rx fun J hJ => Post.ret p2 t1.rel hJ
    | _ =>
      refine (pi_list hd).run pins s σ H R I ⟨F, μ, S, Rl, p1.mono fun v H1 ⟨d, F1, μ1, S1, e2, r1, t1, n1, p2⟩ => ?_⟩
      rw [e1] at e2; cases e2
      exact p2.elim
theorem si_itm (he : PE X e (tE (wd X C) E m)) (hbase : attributeBase e "items" X.env (eval e X.env) = eval e X.env) (hline : (apos.endLine == cpos.line) = true) :
    PI X (.Tuple elts kk tpos) (.Call (.Attribute e "items" apos) [] [] cpos) (tI (wd X C) E (mItm m)) := by
  have hd : PE X e (tD (wd X C) E (bind m esc)) := pe_esc he
  refine ⟨fun pins s σ H R I ⟨F, μ, S, Rl, p⟩ => ?_⟩
  have p1 := Post.bindE (Rα := RD (wd X C)) (m := bind m esc) (k := itmD) p
  refine wpAny_Call_method (T := "dict") (id := "dict.items") hbase rfl hline PySem.F.plainAttrs_dict PySem.F.slot_dict_items PySem.F.type_dict_items (thn (hd.run pins s σ H _ I ⟨F, μ, S, Rl, p1⟩) fun v s1 ⟨x, H1, I1, rx, d, F1, μ1, S1, e2, r1, t1, n1, p2⟩ => ?_)
  cases d with
  | dct ks us =>
    by_cases hl : ks.length = us.length
    · unfold itmD at p2
      dsimp only at p2
      rw [if_pos hl] at p2
      obtain ⟨a, o, u, es, ep, kx, vx, rfl, hf, h1, rw_, r1, r2⟩ := DR.raw I1 r1 t1.rel.sub
      obtain rfl : v = Value.ref a := rx
      have hm := rw_.at (frz_get I1 (t1.rel.sub _ _ hf))
      refine ⟨hm.typeIs, ?_, ?_⟩
      · exact fun b e => by cases e; obtain ⟨o', h1', h2', _⟩ := hm; exact ⟨o', h1', h2'.2.1⟩
      have I2 : Inv X pins σ H1 { s1 with heap := s1.heap.push { cls := .type "dict_items", data := .fields #[.ref a] } } := I1.kept (t' := s1.toks) fun b ob q => Heap.get?_push_of_some _ q
      have fin : wpAny (model X.prog X.w) X.A (pyIter (.ref s1.heap.objs.size)) (PIE X pins σ (.Tuple elts kk tpos) R) X.xe { s1 with heap := s1.heap.push { cls := .type "dict_items", data := .fields #[.ref a] } } :=
        wpAny_pyIter_items_raw (d := a) (es := es) (ep := ep) ⟨_, Heap.get?_push_size _ rfl, rfl, rfl⟩ (hm.at fun o q => Heap.get?_push_of_some _ q) (pi_one (tk := s1.toks) I2 _ (gT_items _ rw_) ⟨.none, .none, Heap.get?_push_size _ rfl⟩ (Post.ret (Rα := RIt (wd X C)) p2 t1.rel (it_gI hf r1 r2 hl)))
      show wpAny _ _ (callWith cpos (.builtin "dict.items") [.ref a] [] []) _ X.xe s1
      exact method_meetsIn PySem.F.slot_dict_items PySem.F.entry_dict_items rfl (PySem.evalArgs_none ⟨rfl, hm.typeIs, PySem.F.args_dict_items_1 _, _, meets_dict_items_raw a h1, ⟨es, ep, hm⟩, fin⟩)
    · unfold itmD at p2
      dsimp only at p2
      rw [if_neg hl] at p2
      exact p2.elim
  | _ => exact p2.elim
theorem si_vals (he : PE X e (tE (wd X C) E m)) (hbase : attributeBase e "values" X.env (eval e X.env) = eval e X.env) (hline : (apos.endLine == cpos.line) = true) :
    PI X tg (.Call (.Attribute e "values" apos) [] [] cpos) (tI (wd X C) E (mVal m)) := by
  have hd : PE X e (tD (wd X C) E (bind m esc)) := pe_esc he
  refine ⟨fun pins s σ H R I ⟨F, μ, S, Rl, p⟩ => ?_⟩
  have p1 := Post.bindE (Rα := RD (wd X C)) (m := bind m esc) (k := valD) p
  refine wpAny_Call_method (T := "dict") (id := "dict.values") hbase rfl hline PySem.F.plainAttrs_dict PySem.F.slot_dict_values PySem.F.type_dict_values (thn (hd.run pins s σ H _ I ⟨F, μ, S, Rl, p1⟩) fun v s1 ⟨x, H1, I1, rx, d, F1, μ1, S1, e2, r1, t1, n1, p2⟩ => ?_)
  cases d with
  | dct ks us =>
    by_cases hl : ks.length = us.length
    · unfold valD at p2
      dsimp only at p2
      rw [if_pos hl] at p2
      obtain ⟨a, o, u, es, ep, kx, vx, rfl, hf, h1, rw_, r1, r2⟩ := DR.raw I1 r1 t1.rel.sub
      obtain rfl : v = Value.ref a := rx
      have hm := rw_.at (frz_get I1 (t1.rel.sub _ _ hf))
      refine ⟨hm.typeIs, ?_, ?_⟩
      · exact fun b e => by cases e; obtain ⟨o', h1', h2', _⟩ := hm; exact ⟨o', h1', h2'.2.1⟩
      have I2 : Inv X pins σ H1 { s1 with heap := s1.heap.push { cls := .type "dict_values", data := .fields #[.ref a] } } := I1.kept (t' := s1.toks) fun b ob q => Heap.get?_push_of_some _ q
      have fin : wpAny (model X.prog X.w) X.A (pyIter (.ref s1.heap.objs.size)) (PIE X pins σ tg R) X.xe { s1 with heap := s1.heap.push { cls := .type "dict_values", data := .fields #[.ref a] } } :=
        wpAny_pyIter_values_raw (d := a) (es := es) (ep := ep) ⟨_, Heap.get?_push_size _ rfl, rfl, rfl⟩ (hm.at fun o q => Heap.get?_push_of_some _ q) (pi_one (tk := s1.toks) I2 _ (gT_vals _ rw_) ⟨_, Heap.get?_push_size _ rfl, rfl, rfl⟩ (Post.ret (Rα := RIt (wd X C)) p2 t1.rel (it_g hf r2)))
      show wpAny _ _ (callWith cpos (.builtin "dict.values") [.ref a] [] []) _ X.xe s1
      exact method_meetsIn PySem.F.slot_dict_values PySem.F.entry_dict_values rfl (PySem.evalArgs_none ⟨rfl, hm.typeIs, PySem.F.args_dict_values_1 _, _, meets_dict_values_raw a h1, ⟨es, ep, hm⟩, fin⟩)
    · unfold valD at p2
      dsimp only at p2
      rw [if_neg hl] at p2
      exact p2.elim
  | _ => exact p2.elim
theorem dIn {i : Int} (h : inRange i = true) : -(2 ^ 62) ≤ i ∧ i < 2 ^ 62 := by
  unfold inRange at h
  simp only [Bool.and_eq_true, decide_eq_true_eq] at h
  omega
theorem mapp {P : Prop} {α β : Type} {W : Wd} {Rα : RT α β} {m : M α} {F : Hp} {μ : List Addr} {S : St} {σ : L2.St} {H : Hp} {Q : β → Hp → Prop} [Decidable P] (h : Post W E Rα (if P then m else fail) F μ S σ H Q) : P ∧ Post W E Rα m F μ S σ H Q := by
  by_cases hp : P
  · rw [if_pos hp] at h; exact ⟨hp, h⟩
  · rw [if_neg hp] at h; exact h.elim
theorem mapb {b : Bool} {α β : Type} {W : Wd} {Rα : RT α β} {m : M α} {F : Hp} {μ : List Addr} {S : St} {σ : L2.St} {H : Hp} {Q : β → Hp → Prop} (h : Post W E Rα (if b then m else fail) F μ S σ H Q) : b = true ∧ Post W E Rα m F μ S σ H Q := mapp h
theorem one_of {W : Wd} {F : Hp} {μ : List Addr} {xs : List D} {vs : List V} (r : DRs W F μ xs vs) {i : Int} (e : xs = [.int i]) : vs = [.int i] := by
  subst e
  cases r with
  | cons a t => cases t; cases a; rfl
theorem two_of {W : Wd} {F : Hp} {μ : List Addr} {xs : List D} {vs : List V} (r : DRs W F μ xs vs) {i j : Int} (e : xs = [.int i, .int j]) : vs = [.int i, .int j] := by
  subst e
  cases r with
  | cons a t => cases a; rw [one_of t rfl]
theorem three_of {W : Wd} {F : Hp} {μ : List Addr} {xs : List D} {vs : List V} (r : DRs W F μ xs vs) {i j k : Int} (e : xs = [.int i, .int j, .int k]) : vs = [.int i, .int j, .int k] := by
  subst e
  cases r with
  | cons a t => cases a; rw [two_of t rfl]
theorem rng_case {α β : Type} {W : Wd} {F : Hp} {μ : List Addr} {S : St} {σ : L2.St} {H : Hp} {xs : List D} {Q : It → Hp → Prop} (h : Post W E (RIt W) (rngD xs) F μ S σ H Q) (R : Rel W F μ S σ H) :
    (∃ j : Int, xs = [.int j] ∧ inRange j = true ∧ Q (Itr 0 j.toNat) H) ∨ (∃ i j : Int, xs = [.int i, .int j] ∧ inRange i = true ∧ inRange j = true ∧ Q (Itr i (j - i).toNat) H) ∨ ∃ i j : Int, xs = [.int i, .int j, .int (-1)] ∧ inRange i = true ∧ inRange j = true ∧ Q (Itc i (-1) (i - j).toNat) H := by
  unfold rngD at h
  split at h
  · obtain ⟨h1, h2⟩ := mapb h
    exact .inl ⟨_, rfl, h1, Post.ret h2 R it_range⟩
  · obtain ⟨h1, h2⟩ := mapb h
    rw [Bool.and_eq_true] at h1
    exact .inr (.inl ⟨_, _, rfl, h1.1, h1.2, Post.ret h2 R it_range⟩)
  · obtain ⟨h1, h2⟩ := mapb h
    simp only [Bool.and_eq_true, decide_eq_true_eq] at h1
    refine .inr (.inr ⟨_, _, rfl, ?_, ?_, Post.ret h2 R it_rangeC⟩) <;> (unfold inRange; simp only [Bool.and_eq_true, decide_eq_true_eq]; omega)
  · exact h.elim
theorem si_rng1 {a : Expr} (hg : Gl X "range") (hm : X.mg "range" = none) (ha : PA X [a] (tDs (wd X C) E ml)) (hs : starEach [a] X.env = [(false, eval a X.env)]) : PI X tg (.Call (.Name "range" p) [a] [] pos) (tI (wd X C) E (bind ml fun xs => if xs.length = 1 then rngD xs else fail)) :=
  piW (pi_range1 hg hm ha hs) fun σ H R ⟨F, μ, S, Rl, p⟩ => ⟨F, μ, S, Rl, (Post.bind p).mono fun vs H1 ⟨xs, F1, μ1, S1, r1, t1, n1, p1⟩ => by
    obtain ⟨hl, p2⟩ := mapp p1
    rcases rng_case (α := Unit) (β := Unit) p2 t1.rel with ⟨j, e, h1, q⟩ | ⟨i, j, e, h1, h2, q⟩ | ⟨i, j, e, h1, h2, q⟩
    · exact ⟨j, one_of r1 e, (dIn h1).1, (dIn h1).2, q⟩
    · subst e; cases hl
    · subst e; cases hl⟩
theorem si_rng2 {a b : Expr} (hg : Gl X "range") (hm : X.mg "range" = none) (ha : PA X [a, b] (tDs (wd X C) E ml)) (hs : starEach [a, b] X.env = [(false, eval a X.env), (false, eval b X.env)]) (hs2 : starEach [b] X.env = [(false, eval b X.env)]) :
    PI X tg (.Call (.Name "range" p) [a, b] [] pos) (tI (wd X C) E (bind ml fun xs => if xs.length = 2 then rngD xs else fail)) :=
  piW (pi_range2 hg hm ha hs hs2) fun σ H R ⟨F, μ, S, Rl, p⟩ => ⟨F, μ, S, Rl, (Post.bind p).mono fun vs H1 ⟨xs, F1, μ1, S1, r1, t1, n1, p1⟩ => by
    obtain ⟨hl, p2⟩ := mapp p1
    rcases rng_case (α := Unit) (β := Unit) p2 t1.rel with ⟨j, e, h1, q⟩ | ⟨i, j, e, h1, h2, q⟩ | ⟨i, j, e, h1, h2, q⟩
    · subst e; cases hl
    · exact ⟨i, j, two_of r1 e, ⟨(dIn h1).1, (dIn h1).2, (dIn h2).1, (dIn h2).2⟩, q⟩
    · subst e; cases hl⟩
theorem si_rng3 {a b c : Expr} (hg : Gl X "range") (hm : X.mg "range" = none) (ha : PA X [a, b, c] (tDs (wd X C) E ml)) (hs : starEach [a, b, c] X.env = (false, eval a X.env) :: starEach [b, c] X.env) (hpl : (backTo pos (starEach [b, c] X.env)).any (·.1) = false) :
    PI X tg (.Call (.Name "range" p) [a, b, c] [] pos) (tI (wd X C) E (bind ml fun xs => if xs.length = 3 then rngD xs else fail)) :=
  piW (pi_range3 hg hm ha hs hpl) fun σ H R ⟨F, μ, S, Rl, p⟩ => ⟨F, μ, S, Rl, (Post.bind p).mono fun vs H1 ⟨xs, F1, μ1, S1, r1, t1, n1, p1⟩ => by
    obtain ⟨hl, p2⟩ := mapp p1
    rcases rng_case (α := Unit) (β := Unit) p2 t1.rel with ⟨j, e, h1, q⟩ | ⟨i, j, e, h1, h2, q⟩ | ⟨i, j, e, h1, h2, q⟩
    · subst e; cases hl
    · subst e; cases hl
    · exact ⟨i, j, -1, _, three_of r1 e, RgC.neg (dIn h1).1 (dIn h1).2 (dIn h2).1 (dIn h2).2, q⟩⟩
theorem si_zip {e2 : Expr} (hg : Gl X "zip") (hm : X.mg "zip" = none) (ha : PA X [e, e2] (tDs (wd X C) E ml)) (hs : starEach [e, e2] X.env = (false, eval e X.env) :: starEach [e2] X.env) (hpl : (backTo pos (starEach [e2] X.env)).any (·.1) = false) :
    PI X (.Tuple elts kk tpos) (.Call (.Name "zip" p) [e, e2] [] pos) (tI (wd X C) E (mZip ml)) :=
  piW (RZ.pi_zipA hg hm ha hs hpl) fun σ H R ⟨F, μ, S, Rl, p⟩ => ⟨F, μ, S, Rl, (Post.bind p).mono fun vs H1 ⟨xs, F1, μ1, S1, r1, t1, n1, p1⟩ => by
    unfold zipD at p1
    split at p1
    · cases r1 with
      | cons a t => cases t with
        | cons b t => cases t; cases a with
          | lst h1 h2 => cases b with
            | lst h3 h4 => exact ⟨_, _, _, _, rfl, .inl ⟨.inl (t1.rel.sub.rd h1), .inl (t1.rel.sub.rd h3), Post.ret p1 t1.rel (it_zip h1 h3 h2 h4)⟩⟩
    · cases r1 with
      | cons a t => cases t with
        | cons b t => cases t; cases a with
          | tup h1 h2 => cases b with
            | tup h3 h4 => exact ⟨_, _, _, _, rfl, .inr ⟨t1.rel.sub.t h1, t1.rel.sub.t h3, Post.ret p1 t1.rel (it_zipT h1 h3 h2 h4)⟩⟩
    · exact p1.elim⟩
theorem si_enum (hg : Gl X "enumerate") (hm : X.mg "enumerate" = none) (ha : PA X [e] (tDs (wd X C) E ml)) (hs : starEach [e] X.env = [(false, eval e X.env)]) :
    PI X (.Tuple elts kk tpos) (.Call (.Name "enumerate" p) [e] [] pos) (tI (wd X C) E (mEnum ml)) :=
  piW (pi_enum hg hm ha hs) fun σ H R ⟨F, μ, S, Rl, p⟩ => ⟨F, μ, S, Rl, (Post.bind p).mono fun vs H1 ⟨xs, F1, μ1, S1, r1, t1, n1, p1⟩ => by
    unfold enumD at p1
    split at p1
    · cases r1 with
      | cons a t => cases t; cases a with
        | lst h1 h2 => exact ⟨_, _, rfl, .inl (t1.rel.sub.rd h1), Post.ret p1 t1.rel (it_enum h1 h2)⟩
    · exact p1.elim⟩
end
end Vi
/-! text Vi15 -/
set_option Elab.async false
set_option linter.all false
set_option maxRecDepth 100000
set_option maxHeartbeats 1000000
/-! Vi, part 15: targets, list comprehensions. -/
namespace Vi
open PySem PySem.Spec PyProof.Rows L2

/-! ### slots set aside -/
def mask (vs : List Nat) : Nat → List Sl → List Sl
  | _, [] => []
  | i, x :: xs => (if vs.contains i then .e else x) :: mask vs (i + 1) xs
def unmask (vs : List Nat) : Nat → List Sl → List Sl → List Sl
  | i, x :: xs, y :: ys => (if vs.contains i then x else y) :: unmask vs (i + 1) xs ys
  | _, _, ys => ys
abbrev St.mask (S : St) (vs : List Nat) : St := ⟨Vi.mask vs 0 S.σ, S.h⟩
abbrev St.back (S : St) (vs : List Nat) (S0 : St) : St := ⟨Vi.unmask vs 0 S0.σ S.σ, S.h⟩
theorem mask_get (vs : List Nat) : ∀ (l : List Sl) (i j : Nat), (mask vs i l)[j]? = (l[j]?).map fun x => if vs.contains (i + j) then .e else x
  | [], _, _ => by simp [mask]
  | x :: xs, i, 0 => by simp [mask]
  | x :: xs, i, j + 1 => by
    have e : i + 1 + j = i + (j + 1) := by omega
    simp only [mask, List.getElem?_cons_succ, mask_get vs xs (i + 1) j, e]
theorem mask_len (vs : List Nat) : ∀ (l : List Sl) (i : Nat), (mask vs i l).length = l.length
  | [], _ => rfl
  | _ :: xs, i => congrArg (· + 1) (mask_len vs xs (i + 1))
theorem unmask_get (vs : List Nat) : ∀ (l l' : List Sl) (i j : Nat), l.length = l'.length → (unmask vs i l l')[j]? = if vs.contains (i + j) then l[j]? else l'[j]?
  | [], [], _, _, _ => by simp [unmask]
  | x :: xs, y :: ys, i, 0, _ => by
    simp only [unmask, List.getElem?_cons_zero, Nat.add_zero]
    split <;> rfl
  | x :: xs, y :: ys, i, j + 1, h => by
    have e : i + 1 + j = i + (j + 1) := by omega
    simp only [unmask, List.getElem?_cons_succ]
    rw [unmask_get vs xs ys (i + 1) j (by simpa using h), e]
theorem unmask_len (vs : List Nat) : ∀ (l l' : List Sl) (i : Nat), l.length = l'.length → (unmask vs i l l').length = l'.length
  | [], [], _, _ => rfl
  | _ :: xs, _ :: ys, i, h => congrArg (· + 1) (unmask_len vs xs ys (i + 1) (by simpa using h))
theorem wipe_get (σ : L2.St) : ∀ (vs : List Nat) (i : Nat), (wipe σ vs)[i]? = if vs.contains i then (σ[i]?).map fun _ => none else σ[i]?
  | [], i => by simp [wipe]
  | v :: vs, i => by
    unfold wipe
    by_cases h : v = i
    · subst h
      rw [List.getElem?_set]
      by_cases hl : v < σ.length
      · have : v < (wipe σ vs).length := by rw [wipe_length]; exact hl
        simp [this, hl]
      · have : ¬ v < (wipe σ vs).length := by rw [wipe_length]; exact hl
        have e : σ[v]? = none := List.getElem?_eq_none (by omega)
        simp [this, e]
    · rw [List.getElem?_set_ne h, wipe_get σ vs i]
      have : (v :: vs).contains i = vs.contains i := by
        simp only [List.contains_cons]
        have : (i == v) = false := by simpa using fun z => h z.symm
        rw [this, Bool.false_or]
      rw [this]
theorem wipe_keep {σ : L2.St} {vs : List Nat} {i : Nat} (h : vs.contains i = false) : (wipe σ vs)[i]? = σ[i]? := by rw [wipe_get, h]; rfl
theorem mask_keep {S : St} {vs : List Nat} {i : Nat} (h : vs.contains i = false) : (S.mask vs).σ[i]? = S.σ[i]? := by
  show (mask vs 0 S.σ)[i]? = _
  rw [mask_get, Nat.zero_add]
  cases S.σ[i]? with
  | none => rfl
  | some x => rw [h]; rfl
theorem mask_none {S : St} {vs : List Nat} {i : Nat} {x : Sl} (h : (S.mask vs).σ[i]? = some x) (hx : x ≠ .e) : vs.contains i = false ∧ S.σ[i]? = some x := by
  have h : (mask vs 0 S.σ)[i]? = some x := h
  rw [mask_get, Nat.zero_add] at h
  cases e : S.σ[i]? with
  | none => rw [e] at h; cases h
  | some y =>
    rw [e] at h
    by_cases hc : vs.contains i = true
    · rw [hc] at h; cases h; exact absurd rfl hx
    · have hc : vs.contains i = false := by simpa using hc
      rw [hc] at h; exact ⟨hc, h⟩
section
variable {W : Wd} {F F' : Hp} {μ μ' : List Addr} {S S' : St} {σ σ' : L2.St} {H H' H0 : Hp} {vs : List Nat}
theorem Own.unmask {a : Addr} (h : Own (S.mask vs) (wipe σ vs) a) : Own S σ a ∧ ∀ (i : Nat) (d : D), vs.contains i = true → S.σ[i]? = some (.o d) → σ[i]? = some (some (.ref a)) → ∃ j e, j ≠ i ∧ S.σ[j]? = some (.o e) ∧ σ[j]? = some (some (.ref a)) := by
  obtain ⟨j, e, h1, h2⟩ := h
  obtain ⟨h3, h4⟩ := mask_none h1 (fun z => nomatch z)
  rw [wipe_keep h3] at h2
  exact ⟨⟨j, e, h4, h2⟩, fun i d hi _ _ => ⟨j, e, (fun z => by rw [z, hi] at h3; cases h3), h4, h2⟩⟩
theorem Own.mask {a : Addr} (R : Rel W F μ S σ H) {i : Nat} {d : D} (hi : vs.contains i = true) (h1 : S.σ[i]? = some (.o d)) (h2 : σ[i]? = some (some (.ref a))) : ¬ Own (S.mask vs) (wipe σ vs) a := fun z => by
  obtain ⟨_, f⟩ := Own.unmask z
  obtain ⟨j, e, hj, h3, h4⟩ := f i d hi h1 h2
  exact hj (R.apart j i e d a h3 h1 h4 h2)
theorem Rel.mask (R : Rel W F μ S σ H) : Rel W F μ (S.mask vs) (wipe σ vs) H := by
  refine ⟨by rw [wipe_length, ← R.len]; exact mask_len vs S.σ 0, R.sub, fun i d h => ?_, fun i d h => ?_, fun i j d e a h1 h2 h3 h4 => ?_, R.hl, R.hp, R.inj, R.tab⟩
  · obtain ⟨h3, h4⟩ := mask_none h (fun z => nomatch z)
    rw [wipe_keep h3]; exact R.sl i d h4
  · obtain ⟨h3, h4⟩ := mask_none h (fun z => nomatch z)
    rw [wipe_keep h3]; exact R.ow i d h4
  · obtain ⟨k1, k2⟩ := mask_none h1 (fun z => nomatch z)
    obtain ⟨k3, k4⟩ := mask_none h2 (fun z => nomatch z)
    rw [wipe_keep k1] at h3
    rw [wipe_keep k3] at h4
    exact R.apart i j d e a k2 k4 h3 h4
/-- the slots of vs are forgotten now -/
theorem Step.mask (t : Step W F μ S σ H F' μ' S' σ' H') : Step W F μ S σ H F' μ' (S'.mask vs) (wipe σ' vs) H' :=
  ⟨t.sub, t.pre, t.rel.mask, t.keep, t.trk, fun a h => t.own a (Own.unmask h).1, t.fr, t.fnew⟩
theorem Step.unmask (R : Rel W F μ S σ H) (t : Step W F μ (S.mask vs) (wipe σ vs) H F' μ' S' (wipe σ vs) H') (hm : S'.mask vs = S') : Step W F μ S σ H F' μ' (S'.back vs S) σ H' := by
  have hl : S.σ.length = S'.σ.length := by rw [R.len, ← wipe_length σ vs]; exact t.rel.len.symm
  have get : ∀ i x, (S'.back vs S).σ[i]? = some x → (vs.contains i = true ∧ S.σ[i]? = some x) ∨ (vs.contains i = false ∧ S'.σ[i]? = some x) := fun i x h => by
    have h : (Vi.unmask vs 0 S.σ S'.σ)[i]? = some x := h
    rw [unmask_get vs _ _ _ _ hl, Nat.zero_add] at h
    by_cases hc : vs.contains i = true
    · rw [if_pos hc] at h; exact .inl ⟨hc, h⟩
    · rw [if_neg hc] at h; exact .inr ⟨by simpa using hc, h⟩
  have old : ∀ (i : Nat) (d : D) (a : Addr), vs.contains i = true → S.σ[i]? = some (.o d) → σ[i]? = some (some (.ref a)) → Liv W F' μ' H' a d ∧ a ∉ μ' ∧ F' a = none ∧ ¬ Own S' (wipe σ vs) a := fun i d a hi h1 h2 => by
    obtain ⟨b, e, l, n, f⟩ := R.ow i d h1
    rw [h2] at e; cases e
    have no := Own.mask R hi h1 h2
    obtain ⟨u, hu⟩ := Option.ne_none_iff_exists'.mp l.trk
    refine ⟨l.mono t.sub t.pre ((t.keep a u hu (l.nt hu) n no).trans hu.symm), fun z => ?_, ?_, fun z => ?_⟩
    · rcases t.fr a z with z | z
      · exact n z
      · exact l.trk z
    · rcases t.fnew a f with z | z | z | z
      · exact z
      · exact absurd z l.trk
      · exact absurd z no
      · exact absurd z l.nnl
    · rcases t.own a z with z | z
      · exact no z
      · exact l.trk z
  refine ⟨t.sub, t.pre, ⟨?_, t.rel.sub, fun i d h => ?_, fun i d h => ?_, fun i j d e a h1 h2 h3 h4 => ?_, t.rel.hl, t.rel.hp, t.rel.inj, t.rel.tab⟩, fun a u h nt n no => t.keep a u h nt n fun z => no (Own.unmask z).1, t.trk, fun a h => ?_, t.fr, fun a h => ?_⟩
  · show (Vi.unmask vs 0 S.σ S'.σ).length = σ.length
    rw [unmask_len vs _ _ _ hl, t.rel.len, wipe_length]
  · rcases get i _ h with ⟨hc, h⟩ | ⟨hc, h⟩
    · obtain ⟨v, h1, h2⟩ := R.sl i d h
      exact ⟨v, h1, h2.mono t.sub t.pre⟩
    · obtain ⟨v, h1, h2⟩ := t.rel.sl i d h
      exact ⟨v, (wipe_keep hc).symm.trans h1, h2⟩
  · rcases get i _ h with ⟨hc, h⟩ | ⟨hc, h⟩
    · obtain ⟨a, h1, _⟩ := R.ow i d h
      obtain ⟨k1, k2, k3, _⟩ := old i d a hc h h1
      exact ⟨a, h1, k1, k2, k3⟩
    · obtain ⟨a, h1, h2⟩ := t.rel.ow i d h
      exact ⟨a, (wipe_keep hc).symm.trans h1, h2⟩
  · rcases get i _ h1 with ⟨c1, h1⟩ | ⟨c1, h1⟩ <;> rcases get j _ h2 with ⟨c2, h2⟩ | ⟨c2, h2⟩
    · exact R.apart i j d e a h1 h2 h3 h4
    · exact absurd ⟨j, e, h2, (wipe_keep c2).trans h4⟩ (old i d a c1 h1 h3).2.2.2
    · exact absurd ⟨i, d, h1, (wipe_keep c1).trans h3⟩ (old j e a c2 h2 h4).2.2.2
    · exact t.rel.apart i j d e a h1 h2 ((wipe_keep c1).trans h3) ((wipe_keep c2).trans h4)
  · obtain ⟨i, d, h1, h2⟩ := h
    rcases get i _ h1 with ⟨c1, h1⟩ | ⟨c1, h1⟩
    · exact .inl ⟨i, d, h1, h2⟩
    · rcases t.own a ⟨i, d, h1, (wipe_keep c1).trans h2⟩ with z | z
      · exact .inl (Own.unmask z).1
      · exact .inr z
  · rcases t.fnew a h with z | z | z | z
    · exact .inl z
    · exact .inr (.inl z)
    · exact .inr (.inr (.inl (Own.unmask z).1))
    · exact .inr (.inr (.inr z))
/-- a new thing, held by no slot, changes -/
theorem Step.upW {D : Addr} {o : HO} (t : Step W F μ S σ H F' μ' S' σ' H') (hm : D ∉ μ') (hf : F' D = none) (ho : ¬ Own S' σ' D) (h0 : H D = none) (hn : ∀ ps, H' D ≠ some (.tbl ps)) : Step W F μ S σ H F' μ' S' σ' (upd H' D o) := by
  refine ⟨t.sub, t.pre, ⟨t.rel.len, fun a u h => ?_, t.rel.sl, fun i d h => ?_, t.rel.apart, t.rel.hl, fun j d a h1 h2 => ?_, t.rel.inj, t.rel.tab.upd hn⟩, fun a u h nt n no => ?_, fun a h => ?_, t.own, t.fr, t.fnew⟩
  · have ha : a ≠ D := fun z => by rw [z, hf] at h; cases h
    rw [upd_ne ha]; exact t.rel.sub a u h
  · obtain ⟨a, h1, h2, h3, h4⟩ := t.rel.ow i d h
    have ha : a ≠ D := fun z => ho ⟨i, d, h, z ▸ h1⟩
    exact ⟨a, h1, h2.mono (Sub.refl _) (fun _ _ z => z) (upd_ne ha), h3, h4⟩
  · obtain ⟨h3, h4⟩ := t.rel.hp j d a h1 h2
    have ha : a ≠ D := fun z => hm (z ▸ List.mem_of_getElem? h2)
    exact ⟨h3.mono (Sub.refl _) (fun _ _ z => z) (upd_ne ha), h4⟩
  · have ha : a ≠ D := fun z => by rw [z, h0] at h; cases h
    rw [upd_ne ha]; exact t.keep a u h nt n no
  · by_cases ha : a = D
    · rw [ha]; exact h0
    · rw [upd_ne ha] at h; exact t.trk a h
theorem OR.stepW {d : D} {v : V} (h : OR W H0 F μ S σ H (.w d) v) (t : Step W F μ S σ H F' μ' S' σ' H') : OR W H0 F' μ' S' σ' H' (.w d) v := by
  obtain ⟨a, h1, h2, h3, h4, h5, h6⟩ := h
  have tr := h2.trk
  obtain ⟨u, hu⟩ := Option.ne_none_iff_exists'.mp tr
  refine ⟨a, h1, h2.mono t.sub t.pre ((t.keep a u hu (h2.nt hu) h3 h5).trans hu.symm), fun z => ?_, ?_, fun z => ?_, h6⟩
  · rcases t.fr a z with z | z
    · exact h3 z
    · exact tr z
  · rcases t.fnew a h4 with z | z | z | z
    · exact z
    · exact absurd z tr
    · exact absurd z h5
    · exact absurd z h2.nnl
  · rcases t.own a z with z | z
    · exact h5 z
    · exact tr z
end

/-! ### targets -/
/-- the slots off ws stay -/
def Off (ws : List Nat) (σ σ' : L2.St) : Prop := σ'.length = σ.length ∧ ∀ i, i ∉ ws → σ'[i]? = σ[i]?
theorem Off.refl (ws : List Nat) (σ : L2.St) : Off ws σ σ := ⟨rfl, fun _ _ => rfl⟩
theorem Off.trans {ws : List Nat} {σ σ' σ'' : L2.St} (a : Off ws σ σ') (b : Off ws σ' σ'') : Off ws σ σ'' := ⟨b.1.trans a.1, fun i h => (b.2 i h).trans (a.2 i h)⟩
theorem Off.wipe {ws vs : List Nat} {σ σ' : L2.St} (h : Off ws (wipe σ vs) σ') (hs : ∀ i ∈ ws, i ∈ vs) : wipe σ' vs = wipe σ vs := by
  apply List.ext_getElem?
  intro i
  rw [wipe_get, wipe_get]
  by_cases hc : vs.contains i = true
  · rw [if_pos hc, if_pos hc]
    have hl : σ'.length = σ.length := by rw [h.1, wipe_length]
    by_cases hi : i < σ.length
    · rw [List.getElem?_eq_getElem hi, List.getElem?_eq_getElem (hl ▸ hi)]; rfl
    · rw [List.getElem?_eq_none (by omega), List.getElem?_eq_none (by omega)]
  · rw [if_neg hc, if_neg hc, h.2 i (fun z => hc (by simpa using hs i z)), wipe_keep (by simpa using hc)]
def PostG (W : Wd) (ws : List Nat) (m : M Unit) (F : Hp) (μ : List Addr) (S : St) (σ : L2.St) (H : Hp) (Q : L2.St → Hp → Prop) : Prop :=
  match m S with
  | .ok _ S' => ∀ F' μ' σ' H', Step W F μ S σ H F' μ' S' σ' H' → Ne S S' → Off ws σ σ' → Q σ' H'
  | _ => False
def tGt (W : Wd) (ws : List Nat) (g : D → M Unit) : TG := fun v σ H Q => ∃ F μ S d, Rel W F μ S σ H ∧ DR W F μ d v ∧ PostG W ws (g d) F μ S σ H Q
def tGs (W : Wd) (ws : List Nat) (g : List D → M Unit) : TGs := fun vs σ H Q => ∃ F μ S ds, Rel W F μ S σ H ∧ DRs W F μ ds vs ∧ PostG W ws (g ds) F μ S σ H Q
def gNm (i : Nat) (d : D) : M Unit := fun s => .ok () { s with σ := s.σ.set i (.s d) }
def gNl : List D → M Unit
  | [] => ret ()
  | _ => fail
def gCn (g : D → M Unit) (gs : List D → M Unit) : List D → M Unit
  | d :: ds => bind (g d) fun _ => gs ds
  | [] => fail
def gTp (n : Nat) (gs : List D → M Unit) : D → M Unit
  | .tup xs => if xs.length = n then gs xs else fail
  | .lst xs => if xs.length = n then gs xs else fail
  | _ => fail
section
variable {X : Cx} {C : Cc} {e : Expr} {es : List Expr} {ws : List Nat} {pos : Pos} {W : Wd} {F : Hp} {μ : List Addr} {S : St} {σ : L2.St} {H : Hp}
theorem pgW {t u : TG} (h : PG X e t) (f : ∀ v σ H Q, u v σ H Q → t v σ H Q) : PG X e u := ⟨fun pins s σ H v u Q I r hw => h.run pins s σ H v u Q I r (f _ _ _ _ hw)⟩
theorem pgsW {t u : TGs} (h : PGs X es t) (f : ∀ v σ H Q, u v σ H Q → t v σ H Q) : PGs X es u := ⟨fun pins s σ H v u Q I r hw => h.run pins s σ H v u Q I r (f _ _ _ _ hw)⟩
theorem set_get {α : Type} {l : List α} {i j : Nat} {x y : α} (h : (l.set i x)[j]? = some y) : (j = i ∧ y = x ∧ i < l.length) ∨ (j ≠ i ∧ l[j]? = some y) := get_set h
/-- a slot is given a value for good -/
theorem Step.setS {i : Nat} {d : D} {v : V} (R : Rel W F μ S σ H) (r : DR W F μ d v) : Step W F μ S σ H F μ { S with σ := S.σ.set i (.s d) } (σ.set i (some v)) H := by
  have own : ∀ a, Own { S with σ := S.σ.set i (.s d) } (σ.set i (some v)) a → Own S σ a := fun a ⟨j, e, h1, h2⟩ => by
    rcases get_set h1 with ⟨_, z, _⟩ | ⟨hj, h1⟩
    · cases z
    · rw [List.getElem?_set_ne (Ne.symm hj)] at h2; exact ⟨j, e, h1, h2⟩
  refine ⟨Sub.refl F, fun _ _ z => z, ⟨by simpa using R.len, R.sub, fun j e h => ?_, fun j e h => ?_, fun j k e f a h1 h2 h3 h4 => ?_, R.hl, R.hp, R.inj, R.tab⟩, fun a u h _ _ _ => h, fun a h => h, fun a h => .inl (own a h), fun a h => .inl h, fun a h => .inl h⟩
  · rcases get_set h with ⟨rfl, z, hl⟩ | ⟨hj, h⟩
    · cases z; exact ⟨v, by rw [List.getElem?_set_self (by rw [← R.len]; exact hl)], r⟩
    · rw [List.getElem?_set_ne (Ne.symm hj)]; exact R.sl j e h
  · rcases get_set h with ⟨rfl, z, _⟩ | ⟨hj, h⟩
    · cases z
    · rw [List.getElem?_set_ne (Ne.symm hj)]; exact R.ow j e h
  · rcases get_set h1 with ⟨_, z, _⟩ | ⟨hj, h1⟩
    · cases z
    · rcases get_set h2 with ⟨_, z, _⟩ | ⟨hk, h2⟩
      · cases z
      · rw [List.getElem?_set_ne (Ne.symm hj)] at h3
        rw [List.getElem?_set_ne (Ne.symm hk)] at h4
        exact R.apart j k e f a h1 h2 h3 h4
theorem Ne.setS {i : Nat} {x : Sl} (hx : ∃ d : D, x = .s d ∨ x = .o d) : Ne S { S with σ := S.σ.set i x } := fun j ⟨d, h⟩ => by
  by_cases hj : j = i
  · subst hj
    have hl : j < S.σ.length := by
      rcases h with h | h <;> exact (List.getElem?_eq_some_iff.mp h).1
    obtain ⟨e, he⟩ := hx
    exact ⟨e, by rcases he with rfl | rfl <;> simp [hl]⟩
  · exact ⟨d, by simpa [List.getElem?_set_ne (Ne.symm hj)] using h⟩
theorem Off.set {i : Nat} {x : Option V} (h : i ∈ ws) : Off ws σ (σ.set i x) := ⟨List.length_set, fun j hj => List.getElem?_set_ne fun z => hj (by rw [← z]; exact h)⟩
theorem sg_name {i : Nat} {x : Str} (hN : X.N.Nodup) (hi : X.N[i]? = some x) (hx : Loc X.env.scope x) (hf : X.fn x = true ∨ X.env.scope.names.lookup x = some .local) (hw : i ∈ ws) : PG X (.Name x pos) (tGt (wd X C) ws (gNm i)) :=
  pgW (pg_name hN hi hx hf) fun v σ H Q ⟨F, μ, S, d, R, r, p⟩ => p _ _ _ _ (Step.setS R r) (Ne.setS ⟨d, .inl rfl⟩) (Off.set hw)
theorem sgs_nil : PGs X [] (tGs (wd X C) ws gNl) := pgsW pgs_nil fun vs σ H Q ⟨F, μ, S, ds, R, r, p⟩ => by
  cases r with
  | nil => exact ⟨rfl, p _ _ _ _ (Step.refl R) (Ne.refl S) (Off.refl _ _)⟩
  | cons a t => exact p.elim
theorem PostG.bind {m : M Unit} {k : Unit → M Unit} {Q : L2.St → Hp → Prop} (p : PostG W ws (Vi.bind m k) F μ S σ H Q) : PostG W ws m F μ S σ H fun σ' H' => ∃ F' μ' S', Step W F μ S σ H F' μ' S' σ' H' ∧ PostG W ws (k ()) F' μ' S' σ' H' Q := by
  unfold PostG Vi.bind at p
  unfold PostG
  cases e : m S with
  | ok a S' =>
    rw [e] at p
    intro F' μ' σ' H' t n o
    refine ⟨F', μ', S', t, ?_⟩
    dsimp only at p
    cases e2 : k a S' with
    | ok b S'' => rw [e2] at p; exact fun F'' μ'' σ'' H'' t2 n2 o2 => p F'' μ'' σ'' H'' (t.trans t2) (n.trans n2) (o.trans o2)
    | _ => rw [e2] at p; exact p.elim
  | _ => rw [e] at p; exact p.elim
theorem PostG.mono {m : M Unit} {Q Q' : L2.St → Hp → Prop} (p : PostG W ws m F μ S σ H Q) (f : ∀ σ' H', Q σ' H' → Q' σ' H') : PostG W ws m F μ S σ H Q' := by
  unfold PostG at p ⊢
  cases e : m S with
  | ok a S' => rw [e] at p; exact fun F' μ' σ' H' t n o => f _ _ (p F' μ' σ' H' t n o)
  | _ => rw [e] at p; exact p
theorem sgs_cons {g : D → M Unit} {gs : List D → M Unit} (h1 : PG X e (tGt (wd X C) ws g)) (h2 : PGs X es (tGs (wd X C) ws gs)) (hs : (assignEach (e :: es) X.env).map (·.2) = assign e X.env :: (assignEach es X.env).map (·.2)) : PGs X (e :: es) (tGs (wd X C) ws (gCn g gs)) :=
  pgsW (pgs_cons h1 h2 hs) fun vs σ H Q ⟨F, μ, S, ds, R, r, p⟩ => by
    cases r with
    | nil => exact p.elim
    | cons a t => exact ⟨_, _, rfl, F, μ, S, _, R, a, (PostG.bind p).mono fun σ' H' ⟨F', μ', S', st, q⟩ => ⟨F', μ', S', _, st.rel, DRs.mono st.sub st.pre t, q⟩⟩
theorem sg_tup {k n : Nat} {gs : List D → M Unit} (hc : X.calm = true) (h : PGs X es (tGs (wd X C) ws gs)) (hn : (assignEach es X.env).length = n) (hst : (assignEach es X.env).findIdx? (·.1) = none) : PG X (.Tuple es k pos) (tGt (wd X C) ws (gTp n gs)) := by
  refine ⟨fun pins s σ H v u Q I r ⟨F, μ, S, d, R, dr, p⟩ => ?_⟩
  unfold gTp at p
  split at p
  · split at p
    · cases dr with
      | tup h1 h2 => exact (pg_tup hc h hn hst).run pins s σ H _ u Q I r ⟨_, _, rfl, R.sub.t h1, by rw [← h2.length]; assumption, F, μ, S, _, R, h2, p⟩
    · exact p.elim
  · split at p
    · cases dr with
      | lst h1 h2 => exact (pg_unl hc h hn hst).run pins s σ H _ u Q I r ⟨_, _, rfl, .inl (R.sub.rd h1), by rw [← h2.length]; assumption, F, μ, S, _, R, h2, p⟩
    · exact p.elim
  · exact p.elim
end
end Vi
/-! text Vi16 -/
set_option Elab.async false
set_option linter.all false
set_option maxRecDepth 100000
set_option maxHeartbeats 1000000
/-! Vi, part 16: list comprehensions. -/
namespace Vi
open PySem PySem.Spec PyProof.Rows L2

abbrev XF : XK := fun _ _ _ => False
/-- one turn: what is added -/
def lc1 (vs : List Nat) (g : D → M Unit) (tt : M Bool) (te : M D) (x : D) : M (List D) := bind (g x) fun _ => bind tt fun b => bind (if b then bind te fun d => ret [d] else ret []) fun r s => .ok r (s.mask vs)
def lcGo (vs : List Nat) (g : D → M Unit) (tt : M Bool) (te : M D) : List D → List D → M (List D)
  | [], acc => ret acc
  | x :: xs, acc => bind (lc1 vs g tt te x) fun r => if acc.length < line then lcGo vs g tt te xs (acc ++ r) else fail
def mLc (vs : List Nat) (mi : M (List D)) (g : D → M Unit) (tt : M Bool) (te : M D) : M O := bind mi fun items s => match lcGo vs g tt te items [] (s.mask vs) with
  | .ok ds s2 => .ok (.w (.lst ds)) (s2.back vs s)
  | _ => .fail
section
variable {α β : Type} {W : Wd} {E E' : XK} {F F' : Hp} {μ μ' : List Addr} {S S' : St} {σ σ' : L2.St} {H H' H0 : Hp} {vs : List Nat}
theorem mask_mask (S : St) (vs : List Nat) : (S.mask vs).mask vs = S.mask vs := by
  have : Vi.mask vs 0 (Vi.mask vs 0 S.σ) = Vi.mask vs 0 S.σ := by
    apply List.ext_getElem?
    intro i
    rw [mask_get, mask_get, Nat.zero_add]
    cases S.σ[i]? with
    | none => rfl
    | some x =>
      show some (if vs.contains i = true then Sl.e else if vs.contains i = true then Sl.e else x) = some (if vs.contains i = true then Sl.e else x)
      split <;> rfl
  unfold St.mask
  rw [this]
theorem wipe_wipe (σ : L2.St) (vs : List Nat) : wipe (wipe σ vs) vs = wipe σ vs := by
  apply List.ext_getElem?
  intro i
  rw [wipe_get, wipe_get]
  split
  · cases σ[i]? <;> rfl
  · rfl
theorem Post.okE {Rα : RT α β} {m : M α} {a : α} (e : m S = .ok a S') {Q : β → Hp → Prop} (h : ∀ F' μ' b H', Step W F μ S σ H F' μ' S' σ H' → Ne S S' → Rα H F' μ' S' σ H' a b → Q b H') : Post W E Rα m F μ S σ H Q := by
  unfold Post; rw [e]; exact h
theorem bind_okE {m : M α} {k : α → M β} {b : β} (h : Vi.bind m k S = .ok b S') : ∃ a S1, m S = .ok a S1 ∧ k a S1 = .ok b S' := by
  unfold Vi.bind at h
  cases e : m S with
  | ok a S1 => rw [e] at h; exact ⟨a, S1, rfl, h⟩
  | exc c d S1 => rw [e] at h; cases h
  | fail => rw [e] at h; cases h
theorem Ne.mask (n : Ne S S') : Ne (S.mask vs) (S'.mask vs) := fun i ⟨d, h⟩ => by
  have q : vs.contains i = false ∧ ∃ d : D, S.σ[i]? = some (.s d) ∨ S.σ[i]? = some (.o d) := by
    rcases h with h | h
    · obtain ⟨h1, h2⟩ := mask_none h (fun z => nomatch z); exact ⟨h1, d, .inl h2⟩
    · obtain ⟨h1, h2⟩ := mask_none h (fun z => nomatch z); exact ⟨h1, d, .inr h2⟩
  obtain ⟨d', h'⟩ := n i q.2
  rw [mask_keep q.1]
  exact ⟨d', h'⟩
theorem Ne.back (hl : S.σ.length = S'.σ.length) (n : Ne (S.mask vs) S') : Ne S (S'.back vs S) := fun i h => by
  have e : (S'.back vs S).σ[i]? = if vs.contains i then S.σ[i]? else S'.σ[i]? := by
    show (Vi.unmask vs 0 S.σ S'.σ)[i]? = _
    rw [unmask_get vs _ _ _ _ hl, Nat.zero_add]
  rw [e]
  by_cases hc : vs.contains i = true
  · rw [if_pos hc]; exact h
  · rw [if_neg hc]
    refine n i ?_
    rw [mask_keep (by simpa using hc)]
    exact h
/-- what stands at the i-th turn -/
structure LcI (W : Wd) (F1 : Hp) (μ1 : List Addr) (S1 : St) (σ : L2.St) (H1 : Hp) (vs : List Nat) (D : Addr) (go : List Vi.D → St → Prop) (H : Hp) (F : Hp) (μ : List Addr) (S : St) (acc : List Vi.D) : Prop where
  t : Step W F1 μ1 (S1.mask vs) (wipe σ vs) H1 F μ S (wipe σ vs) H
  m : S.mask vs = S
  n : Ne (S1.mask vs) S
  w : OR W H1 F μ S (wipe σ vs) H (.w (.lst acc)) (.ref D)
  g : go acc S
theorem tLc_of {ws : List Nat} {mi : M (List D)} {g : D → M Unit} {tt : M Bool} {te : M D} {Q : VK} (hw : ∀ i ∈ ws, i ∈ vs) (p : tE W E (mLc vs mi g tt te) σ H Q) : tLc (tI W E mi) (tGt W ws g) (tT W E' tt) (tD W E' te) vs σ H Q := by
  obtain ⟨F, μ, S, R, p⟩ := p
  refine ⟨F, μ, S, R, ?_⟩
  unfold Post mLc Vi.bind at p
  unfold Post
  cases e1 : mi S with
  | fail => rw [e1] at p; exact p
  | exc c d S1 => rw [e1] at p; exact p
  | ok items S1 =>
  rw [e1] at p
  dsimp only at p
  intro F1 μ1 J H1 t1 n1 hJ D hD
  cases e2 : lcGo vs g tt te items [] (S1.mask vs) with
  | fail => rw [e2] at p; exact p.elim
  | exc c d S2 => rw [e2] at p; exact p.elim
  | ok ds S2 =>
  rw [e2] at p
  dsimp only at p
  refine ⟨fun i m H' => m = items.length - i ∧ i ≤ items.length ∧ ∃ F2 μ2 S' acc, LcI W F1 μ1 S1 σ H1 vs D (fun acc S' => lcGo vs g tt te (items.drop i) acc S' = .ok ds S2) H' F2 μ2 S' acc, ⟨items.length, by simp, Nat.zero_le _, F1, μ1, S1.mask vs, [], ?_, mask_mask _ _, Ne.refl _, ?_, by simpa using e2⟩, ?_⟩
  · exact Step.new t1.rel.mask hD
  · have R1 := t1.rel.mask (vs := vs)
    exact ⟨D, rfl, ⟨[], upd_same, .nil⟩, fun z => R1.muTrk z hD, R1.noF hD, fun z => R1.ownTrk z hD, hD⟩
  rintro i m H' ⟨rfl, hi, F2, μ2, S', acc, I⟩
  obtain ⟨hgo, hst⟩ := hJ F2 μ2 S' (wipe σ vs) H' I.t.sub I.t.pre I.t.rel i
  by_cases hlt : i < items.length
  · obtain ⟨hg, hy⟩ := hgo hlt
    have hd : items.drop i = items[i] :: items.drop (i + 1) := List.drop_eq_getElem_cons hlt
    have g0 := I.g
    rw [hd] at g0
    obtain ⟨r, Sm, q1, q2⟩ := bind_okE g0
    by_cases hz : acc.length < line
    case neg => rw [if_neg hz] at q2; cases q2
    rw [if_pos hz] at q2
    obtain ⟨_, Sg, qg, q3⟩ := bind_okE q1
    obtain ⟨b, St, qt, q4⟩ := bind_okE q3
    obtain ⟨r', Se, qe, q5⟩ := bind_okE q4
    cases q5
    refine .inr ⟨hg, fun H'' => i + 1 ≤ items.length ∧ ∃ F2 μ2 S' acc, LcI W F1 μ1 S1 σ H1 vs D (fun acc S' => lcGo vs g tt te (items.drop (i + 1)) acc S' = .ok ds S2) H'' F2 μ2 S' acc, fun H'' z => ⟨items.length - (i + 1), by omega, rfl, z⟩, fun x H3 y => ?_⟩
    obtain ⟨d, F3, ed, ty, rd⟩ := hy x H3 y
    rw [List.getElem?_eq_getElem hlt] at ed
    cases ed
    refine ⟨F3, μ2, S', _, ty.rel, rd, ?_⟩
    unfold PostG
    rw [qg]
    intro F4 μ4 σ4 H4 tg ng og
    refine ⟨og.wipe hw, ?_⟩
    have hwσ : wipe σ4 vs = wipe σ vs := og.wipe hw
    refine ⟨F4, μ4, Sg, tg.rel, Post.okE qt fun F5 μ5 b' H5 tt_ nt rb => ?_⟩
    cases rb
    have T5 := ((I.t.trans ty).trans tg).trans tt_
    have w5 := ((I.w.stepW ty).stepW tg).stepW tt_
    cases b with
    | false =>
      simp only [Bool.false_eq_true, if_false] at qe ⊢
      cases qe
      have T6 := T5.mask (vs := vs)
      rw [hwσ] at T6
      refine ⟨hlt, F5, μ5, St.mask vs, acc, T6, mask_mask _ _, ?_, ?_, by simpa using q2⟩
      · have := ((I.n.trans ng).trans nt).mask (vs := vs)
        rwa [mask_mask] at this
      · obtain ⟨a, h1, h2, h3, h4, h5, h6⟩ := w5
        cases h1
        exact ⟨D, rfl, h2, h3, h4, fun z => h5 (by rw [← hwσ] at z; exact (Own.unmask z).1), h6⟩
    | true =>
      simp only [if_true] at qe ⊢
      obtain ⟨d, Sd, qd, qr⟩ := bind_okE qe
      cases qr
      refine ⟨F5, μ5, St, T5.rel, Post.okE qd fun F6 μ6 yv H6 td nd rdd => ?_⟩
      have T6 := T5.trans td
      obtain ⟨a, h1, ⟨vs6, h2, h2'⟩, h3, h4, h5, h6⟩ := w5.stepW td
      cases h1
      refine ⟨vs6, h2, by rw [← h2'.length]; exact hz, hlt, F6, μ6, Se.mask vs, acc ++ [d], ?_, mask_mask _ _, ?_, ?_, q2⟩
      · have := ((T6.upW h3 h4 h5 h6 (fun ps z => by rw [h2] at z; cases z) (o := .lst (vs6 ++ [yv]))).mask (vs := vs))
        rwa [hwσ] at this
      · have := (((I.n.trans ng).trans nt).trans nd).mask (vs := vs)
        rwa [mask_mask] at this
      · exact ⟨D, rfl, ⟨_, upd_same, h2'.append (.cons rdd .nil)⟩, h3, h4, fun z => h5 (by rw [← hwσ] at z; exact (Own.unmask z).1), h6⟩
  · have ei : i = items.length := by omega
    refine .inl ⟨hst (by omega), ?_⟩
    have g0 := I.g
    rw [ei, List.drop_length] at g0
    cases g0
    have hl : S1.σ.length = S2.σ.length := by rw [t1.rel.len, ← wipe_length σ vs]; exact I.t.rel.len.symm
    have tb := Step.unmask t1.rel I.t I.m
    refine p F2 μ2 (.ref D) H' (t1.trans tb) (n1.trans (Ne.back hl I.n)) ?_
    obtain ⟨a, h1, h2, h3, h4, h5, h6⟩ := I.w
    cases h1
    refine ⟨D, rfl, h2, h3, h4, fun z => ?_, t1.trk _ hD⟩
    rcases tb.own D z with z | z
    · exact t1.rel.ownTrk z hD
    · obtain ⟨vs', h2, _⟩ := h2
      have R1 := t1.rel
      obtain ⟨j, e, k1, k2⟩ := (‹Own (S2.back vs S1) σ D› : Own _ _ _)
      have k1 : (Vi.unmask vs 0 S1.σ S2.σ)[j]? = some (.o e) := k1
      rw [unmask_get vs _ _ _ _ hl, Nat.zero_add] at k1
      by_cases hc : vs.contains j = true
      · rw [if_pos hc] at k1; exact R1.ownTrk ⟨j, e, k1, k2⟩ hD
      · rw [if_neg hc] at k1; exact h5 ⟨j, e, k1, (wipe_keep (by simpa using hc)).trans k2⟩
end
section
variable {X : Cx} {C : Cc} {E : XK} {elt tg iter : Expr} {ifs : List Expr} {scope : Scope} {own : List (Str × Nat)} {pos : Pos} {ws : List Nat} {mi : M (List D)} {g : D → M Unit} {tt : M Bool} {te : M O}
theorem peG' {e : Expr} {t u : TE} (h : PE X e t) (f : ∀ σ H Q, u σ H Q → t σ H Q) : PE X e u := peW h f
theorem sc_nil : PTs X [] (tT (wd X C) E (ret true)) := ⟨fun pins s σ H Q I ⟨F, μ, S, R, p⟩ => pts_nil.run pins s σ H Q I (Post.ret (b := true) p R rfl)⟩
theorem sc_one {c : Expr} {m : M Bool} (h : PT X c (tT (wd X C) E m)) : PTs X [c] (tT (wd X C) E m) := pts_one h
theorem se_lc (hc : X.calm = true) (hN : X.N.Nodup) (hi : PI X tg iter (tI (wd X C) E mi)) (ok : BlkOk X.N X.env.scope scope own) (hw : ∀ i ∈ ws, i ∈ own.map (·.2))
    (hg : ∀ (s : Shared) (H : Hp) (A : Addr) (cl : List (Str × Addr)) (fp : List Addr), PG (X.blk s H scope (compEnvC scope cl A X.env) fp) tg (tGt (wd X C) ws g))
    (ht : ∀ (s : Shared) (H : Hp) (A : Addr) (cl : List (Str × Addr)) (fp : List Addr), PTs (X.blk s H scope (compEnvC scope cl A X.env) fp) ifs (tT (wd X C) XF tt))
    (he : ∀ (s : Shared) (H : Hp) (A : Addr) (cl : List (Str × Addr)) (fp : List Addr), PE (X.blk s H scope (compEnvC scope cl A X.env) fp) elt (tE (wd X C) XF te)) (hs : ∀ x, foldedSetIterable iter X.env x = pure x) :
    PE X (.ListComp elt [⟨tg, iter, ifs, 0⟩] scope pos) (tE (wd X C) E (mLc (own.map (·.2)) mi g tt (bind te esc))) :=
  peW (pe_lc hc hN hi ok hg ht (fun s H A cl fp => pe_esc (he s H A cl fp)) hs) fun σ H Q p => tLc_of hw p
end
end Vi
/-! text Vi17 -/
set_option Elab.async false
set_option linter.all false
set_option maxRecDepth 100000
set_option maxHeartbeats 1000000
/-! Vi, part 17: statements. -/
namespace Vi
open PySem PySem.Spec PyProof.Rows L2

inductive RF where
  | nx (s : St) | rt (o : O) (s : St) | exc (c : Nat) (d : D) (s : St) | fail
abbrev MS := St → RF
def norm : O → M O
  | .at i => fun s => match s.σ[i]? with
    | some (.s d) => .ok (.v d) s
    | some (.o d) => .ok (.v d) { s with σ := s.σ.set i (.s d) }
    | _ => .fail
  | o => ret o
def put1 (i : Nat) (o : O) (s : St) : RF := match o with
  | .v d => .nx { s with σ := s.σ.set i (.s d) }
  | .w d => .nx { s with σ := s.σ.set i (.o d) }
  | .at _ => .fail
def mSkip : MS := fun s => .nx s
def mSeq (a b : MS) : MS := fun s => match a s with
  | .nx s' => b s'
  | r => r
def mThen {α : Type} (m : M α) (k : α → MS) : MS := fun s => match m s with
  | .ok a s' => k a s'
  | .exc c d s' => .exc c d s'
  | .fail => .fail
def mDo (m : M O) : MS := mThen m fun _ => mSkip
def mSet (i : Nat) (m : M O) : MS := mThen (bind m norm) (put1 i)
def mAsg (g : D → M Unit) (m : M O) : MS := mThen (bind m esc) fun d => mThen (g d) fun _ => mSkip
def mRet (m : M O) : MS := mThen m fun o s => .rt o s
def mIfS (c : M Bool) (a b : MS) : MS := mThen c fun t => if t then a else b
def forGo (g : D → M Unit) (b : MS) : List D → MS
  | [] => mSkip
  | x :: xs => mSeq (mThen (g x) fun _ => b) (forGo g b xs)
def mFor (mi : M (List D)) (g : D → M Unit) (b : MS) : MS := mThen mi (forGo g b)
def mWhile (c : M Bool) (b : MS) : Nat → MS
  | 0 => fun _ => .fail
  | n + 1 => mThen c fun t => if t then mSeq b (mWhile c b n) else mSkip

def PostS (W : Wd) (E : XK) (m : MS) (F : Hp) (μ : List Addr) (S : St) (σ : L2.St) (H : Hp) (D : Ends) : Prop :=
  match m S with
  | .nx S' => ∀ F' μ' σ' H', Step W F μ S σ H F' μ' S' σ' H' → D.nx σ' H'
  | .rt o S' => ∀ F' μ' σ' v H', Step W F μ S σ H F' μ' S' σ' H' → OR W H F' μ' S' σ' H' o v → D.rt v H'
  | .exc c d S' => ∀ F' μ' σ' H' dx v, Step W F μ S σ H F' μ' S' σ' H' → H' dx = some (.xd [("value", v)]) → DR W F' μ' d v → E (.ref (W.C c)) (some dx) H'
  | .fail => False
def tS (W : Wd) (E : XK) (m : MS) : TS := fun D σ H => ∃ F μ S, Rel W F μ S σ H ∧ PostS W E m F μ S σ H D
section
variable {α β : Type} {W : Wd} {E : XK} {F F' : Hp} {μ μ' : List Addr} {S S' : St} {σ σ' : L2.St} {H H' : Hp} {D D' : Ends}
/-- a first part, then the rest -/
theorem PostS.next {a : MS} (e : a S = .nx S') {b : MS} (p : PostS W E (mSeq a b) F μ S σ H D) (t : Step W F μ S σ H F' μ' S' σ' H') : PostS W E b F' μ' S' σ' H' D := by
  unfold PostS mSeq at p
  rw [e] at p
  dsimp only at p
  unfold PostS
  cases e2 : b S' with
  | nx S'' => rw [e2] at p; exact fun F'' μ'' σ'' H'' t2 => p F'' μ'' σ'' H'' (t.trans t2)
  | rt o S'' => rw [e2] at p; exact fun F'' μ'' σ'' v H'' t2 r => p F'' μ'' σ'' v H'' (t.trans t2) (r.back t.trk)
  | exc c d S'' => rw [e2] at p; exact fun F'' μ'' σ'' H'' dx v t2 => p F'' μ'' σ'' H'' dx v (t.trans t2)
  | fail => rw [e2] at p; exact p
theorem PostS.seq {a b : MS} (p : PostS W E (mSeq a b) F μ S σ H D) : PostS W E a F μ S σ H { D with nx := fun σ' H' => ∃ F' μ' S', Rel W F' μ' S' σ' H' ∧ PostS W E b F' μ' S' σ' H' D } := by
  have p0 := p
  unfold PostS mSeq at p
  unfold PostS
  cases e : a S with
  | nx S' => exact fun F' μ' σ' H' t => ⟨F', μ', S', t.rel, p0.next e t⟩
  | rt o S' => rw [e] at p; exact p
  | exc c d S' => rw [e] at p; exact p
  | fail => rw [e] at p; exact p
theorem PostS.bind {Rα : RT α β} {m : M α} {k : α → MS} (p : PostS W E (mThen m k) F μ S σ H D) : Post W E Rα m F μ S σ H fun b H1 => ∃ a F1 μ1 S1, m S = .ok a S1 ∧ Rα H F1 μ1 S1 σ H1 a b ∧ Step W F μ S σ H F1 μ1 S1 σ H1 ∧ Ne S S1 ∧
    (∀ σ' H' S' F' μ' , Step W F1 μ1 S1 σ H1 F' μ' S' σ' H' → Step W F μ S σ H F' μ' S' σ' H') ∧ PostS W E (k a) F1 μ1 S1 σ H1 D := by
  unfold PostS mThen at p
  unfold Post
  cases e : m S with
  | fail => rw [e] at p; exact p
  | exc c d S1 => rw [e] at p; exact fun F' μ' H' dx v t => p F' μ' σ H' dx v t
  | ok a S1 =>
    rw [e] at p
    dsimp only at p
    intro F1 μ1 b H1 t n r
    refine ⟨a, F1, μ1, S1, rfl, r, t, n, fun σ' H' S' F' μ' t2 => t.trans t2, ?_⟩
    unfold PostS
    cases e2 : k a S1 with
    | nx S'' => rw [e2] at p; exact fun F'' μ'' σ'' H'' t2 => p F'' μ'' σ'' H'' (t.trans t2)
    | rt o S'' => rw [e2] at p; exact fun F'' μ'' σ'' v H'' t2 r => p F'' μ'' σ'' v H'' (t.trans t2) (r.back t.trk)
    | exc c d S'' => rw [e2] at p; exact fun F'' μ'' σ'' H'' dx v t2 => p F'' μ'' σ'' H'' dx v (t.trans t2)
    | fail => rw [e2] at p; exact p
theorem PostS.bindG {ws : List Nat} {m : M Unit} {k : Unit → MS} (hx : ∀ c d S', m S ≠ .exc c d S') (p : PostS W E (mThen m k) F μ S σ H D) : PostG W ws m F μ S σ H fun σ' H' => ∃ F' μ' S', Rel W F' μ' S' σ' H' ∧ PostS W E (k ()) F' μ' S' σ' H' D := by
  unfold PostS mThen at p
  unfold PostG
  cases e : m S with
  | fail => rw [e] at p; exact p
  | exc c d S1 => exact absurd e (hx c d S1)
  | ok a S1 =>
    rw [e] at p
    dsimp only at p
    intro F1 μ1 σ1 H1 t n _
    refine ⟨F1, μ1, S1, t.rel, ?_⟩
    unfold PostS
    cases e2 : k a S1 with
    | nx S'' => rw [e2] at p; exact fun F'' μ'' σ'' H'' t2 => p F'' μ'' σ'' H'' (t.trans t2)
    | rt o S'' => rw [e2] at p; exact fun F'' μ'' σ'' v H'' t2 r => p F'' μ'' σ'' v H'' (t.trans t2) (r.back t.trk)
    | exc c d S'' => rw [e2] at p; exact fun F'' μ'' σ'' H'' dx v t2 => p F'' μ'' σ'' H'' dx v (t.trans t2)
    | fail => rw [e2] at p; exact p
theorem PostS.skip (p : PostS W E mSkip F μ S σ H D) (R : Rel W F μ S σ H) : D.nx σ H := p F μ σ H (Step.refl R)
theorem PostS.ends {m : MS} (p : PostS W E m F μ S σ H D) (hn : ∀ σ' H', D.nx σ' H' → D'.nx σ' H') (hr : ∀ v H', D.rt v H' → D'.rt v H') : PostS W E m F μ S σ H D' := by
  unfold PostS at p ⊢
  cases e : m S with
  | nx S'' => rw [e] at p; exact fun F'' μ'' σ'' H'' t2 => hn _ _ (p F'' μ'' σ'' H'' t2)
  | rt o S'' => rw [e] at p; exact fun F'' μ'' σ'' v H'' t2 r => hr _ _ (p F'' μ'' σ'' v H'' t2 r)
  | exc c d S'' => rw [e] at p; exact p
  | fail => rw [e] at p; exact p
/-- a value as it is to be put: none stands in a slot -/
theorem Post.norm {m : M O} {Q : V → Hp → Prop} (h : Post W E (OR W) (Vi.bind m Vi.norm) F μ S σ H Q) : Post W E (OR W) m F μ S σ H fun v H1 => Gz (Q v) H1 := by
  unfold Post Vi.bind at h
  unfold Post
  cases e : m S with
  | fail => rw [e] at h; exact h
  | exc c d S' => rw [e] at h; exact h
  | ok o S1 =>
    rw [e] at h
    intro F1 μ1 v H1 t n r
    cases o with
    | v d => exact .done (h F1 μ1 v H1 t n r)
    | w d => exact .done (h F1 μ1 v H1 t n r)
    | «at» i =>
      obtain ⟨hv, d, hd⟩ := r
      rcases hd with hd | hd
      · simp only [Vi.norm, hd] at h
        obtain ⟨v', h1, h2⟩ := t.rel.sl i d hd
        rw [hv] at h1; cases h1
        exact .done (h F1 μ1 v H1 t n h2)
      · simp only [Vi.norm, hd] at h
        obtain ⟨a, h1, l, hm, hf⟩ := t.rel.ow i d hd
        rw [hv] at h1; cases h1
        obtain ⟨u, hu⟩ := Option.ne_none_iff_exists'.mp l.trk
        refine .step hu (by rw [← hu]; exact l.mut) fun od => .done ?_
        obtain ⟨t2, n2, dr⟩ := t.rel.lockSlot (od := od) hd hv hu
        exact h _ μ1 _ _ (t.trans t2) (n.trans n2) dr
theorem pe_norm {X : Cx} {e : Expr} {m : M O} (h : PE X e (tE W E m)) : PE X e (tE W E (bind m norm)) :=
  peW (peG h) fun σ H Q ⟨F, μ, S, R, p⟩ => ⟨F, μ, S, R, p.norm⟩
end
section
variable {W : Wd} {E : XK} {F : Hp} {μ : List Addr} {S : St} {σ : L2.St} {H H0 : Hp} {D : Ends}
theorem Step.putW {i : Nat} {d : Vi.D} {a : Addr} (R : Rel W F μ S σ H) (l : Liv W F μ H a d) (hm : a ∉ μ) (hf : F a = none) (ho : ¬ Own S σ a) : Rel W F μ { S with σ := S.σ.set i (.o d) } (σ.set i (some (.ref a))) H := by
  refine ⟨by simpa using R.len, R.sub, fun j e h => ?_, fun j e h => ?_, fun j k e f b h1 h2 h3 h4 => ?_, R.hl, R.hp, R.inj, R.tab⟩
  · rcases get_set h with ⟨rfl, z, hl⟩ | ⟨hj, h⟩
    · cases z
    · rw [List.getElem?_set_ne (Ne.symm hj)]; exact R.sl j e h
  · rcases get_set h with ⟨rfl, z, hl⟩ | ⟨hj, h⟩
    · cases z; exact ⟨a, by rw [List.getElem?_set_self (by rw [← R.len]; exact hl)], l, hm, hf⟩
    · rw [List.getElem?_set_ne (Ne.symm hj)]; exact R.ow j e h
  · rcases get_set h1 with ⟨rfl, z, hl⟩ | ⟨hj, k1⟩
    · rcases get_set h2 with ⟨rfl, _, _⟩ | ⟨hk, h2⟩
      · rfl
      · rw [List.getElem?_set_self (by rw [← R.len]; exact hl)] at h3
        rw [List.getElem?_set_ne (Ne.symm hk)] at h4
        injection h3 with h3
        injection h3 with h3
        injection h3 with h3
        subst h3
        exact absurd ⟨k, f, h2, h4⟩ ho
    · rw [List.getElem?_set_ne (Ne.symm hj)] at h3
      rcases get_set h2 with ⟨rfl, _, hl⟩ | ⟨hk, k2⟩
      · rw [List.getElem?_set_self (by rw [← R.len]; exact hl)] at h4
        injection h4 with h4
        injection h4 with h4
        injection h4 with h4
        subst h4
        exact absurd ⟨j, e, k1, h3⟩ ho
      · rw [List.getElem?_set_ne (Ne.symm hk)] at h4
        exact R.apart j k e f b k1 k2 h3 h4
/-- .. which is new since the state ahead -/
theorem Step.setW {i : Nat} {d : Vi.D} {v : V} {F1 : Hp} {μ1 : List Addr} {S1 : St} {σ1 : L2.St} {H1 : Hp} (t : Step W F μ S σ H F1 μ1 S1 σ1 H1) (r : OR W H F1 μ1 S1 σ1 H1 (.w d) v) :
    Step W F μ S σ H F1 μ1 { S1 with σ := S1.σ.set i (.o d) } (σ1.set i (some v)) H1 := by
  obtain ⟨a, rfl, l, hm, hf, ho, h0⟩ := r
  refine ⟨t.sub, t.pre, Step.putW t.rel l hm hf ho, t.keep, t.trk, fun b ⟨j, e, h1, h2⟩ => ?_, t.fr, t.fnew⟩
  rcases get_set h1 with ⟨rfl, _, hl⟩ | ⟨hj, h1⟩
  · rw [List.getElem?_set_self (by rw [← t.rel.len]; exact hl)] at h2
    cases h2
    exact .inr h0
  · rw [List.getElem?_set_ne (Ne.symm hj)] at h2
    exact t.own b ⟨j, e, h1, h2⟩
end
section
variable {X : Cx} {C : Cc} {E : XK} {tg e it c : Expr} {st : Stmt} {sts sa sb : List Stmt} {pos px : Pos} {m : M O} {mi : M (List D)} {mb : M Bool} {g : D → M Unit} {ws : List Nat} {a b : MS}
theorem psW' {t u : TS} (h : PS X st t) (f : ∀ D σ H, u D σ H → t D σ H) : PS X st u := ⟨fun pins s σ H D I hw => h.run pins s σ H D I (f _ _ _ hw)⟩
theorem pssW' {t u : TS} (h : PSs X sts t) (f : ∀ D σ H, u D σ H → t D σ H) : PSs X sts u := ⟨fun pins s σ H D I hw => h.run pins s σ H D I (f _ _ _ hw)⟩
theorem ss_nil : PSs X [] (tS (wd X C) E mSkip) := pssW' pss_nil fun D σ H ⟨F, μ, S, R, p⟩ => p.skip R
theorem ss_cons (h1 : PS X st (tS (wd X C) E a)) (h2 : PSs X sts (tS (wd X C) E b)) : PSs X (st :: sts) (tS (wd X C) E (mSeq a b)) :=
  pssW' (pss_cons h1 h2) fun D σ H ⟨F, μ, S, R, p⟩ => ⟨F, μ, S, R, p.seq.ends (fun σ' H' z => z) fun v H' z => z⟩
theorem ss_pass : PS X (.Pass pos) (tS (wd X C) E mSkip) := psW' ps_pass fun D σ H ⟨F, μ, S, R, p⟩ => p.skip R
theorem ss_doc {x : Str} {j : Nat} {p1 p2 : Pos} : PS X (.Expr (.Constant (.str x) j p1) p2) (tS (wd X C) E mSkip) := psW' ps_doc fun D σ H ⟨F, μ, S, R, p⟩ => p.skip R
theorem ss_do (he : PE X e (tE (wd X C) E m)) (hs : swapsWith e none pos.line X.env = pure false) : PS X (.Expr e pos) (tS (wd X C) E (mDo m)) :=
  psW' (ps_expr he hs) fun D σ H ⟨F, μ, S, R, p⟩ => ⟨F, μ, S, R, (PostS.bind p).mono fun v H1 ⟨o, F1, μ1, S1, e1, r1, t1, n1, q1, p1⟩ => p1.skip t1.rel⟩
theorem ss_set {i : Nat} {x : Str} (hN : X.N.Nodup) (hi : X.N[i]? = some x) (hx : Loc X.env.scope x) (he : PE X e (tE (wd X C) E m)) (hs : swapsWith e (some (.Name x px)) pos.line X.env = pure false) (hf : X.fn x = true ∨ X.env.scope.names.lookup x = some .local) :
    PS X (.Assign [.Name x px] e pos) (tS (wd X C) E (mSet i m)) :=
  psW' (ps_set hN hi hx (pe_norm he) hs hf) fun D σ H ⟨F, μ, S, R, p⟩ => ⟨F, μ, S, R, (by
    have p1 := PostS.bind (Rα := OR (wd X C)) p
    unfold PostS mSet mThen at p
    unfold Post at p1 ⊢
    cases e1 : Vi.bind m norm S with
    | fail => rw [e1] at p1; exact p1
    | exc c d S1 => rw [e1] at p1; exact p1
    | ok o S1 =>
      intro F1 μ1 v H1 t n r
      rw [e1] at p
      cases o with
      | v d => exact p F1 μ1 _ H1 (t.trans (Step.setS t.rel r))
      | w d => exact p F1 μ1 _ H1 (Step.setW t r)
      | «at» j => exact p.elim)⟩
theorem gNm_exc {i : Nat} {d : D} {s : St} (c : Nat) (v : D) (s' : St) : gNm i d s ≠ .exc c v s' := fun z => nomatch z
/-- targets raise nothing -/
def NoX (g : D → M Unit) : Prop := ∀ d s c v s', g d s ≠ .exc c v s'
theorem ss_asg (he : PE X e (tE (wd X C) E m)) (hg : PG X tg (tGt (wd X C) ws g)) (hx : NoX g) (hs : swapsWithSole [tg] e pos.line X.env = pure false) (hw : swappedStores [tg] e X.env = pure none) (h1 : (assignEach [tg] X.env).map (·.2) = [assign tg X.env]) :
    PS X (.Assign [tg] e pos) (tS (wd X C) E (mAsg g m)) :=
  psW' (ps_asg (pe_esc he) hg hs hw h1) fun D σ H ⟨F, μ, S, R, p⟩ => ⟨F, μ, S, R, (PostS.bind p).mono fun v H1 ⟨d, F1, μ1, S1, e1, r1, t1, n1, q1, p1⟩ =>
    ⟨F1, μ1, S1, d, t1.rel, r1, (PostS.bindG (hx d S1) p1).mono fun σ' H' ⟨F', μ', S', R', p2⟩ => p2.skip R'⟩⟩
theorem ss_ret (he : PE X e (tE (wd X C) E m)) : PS X (.Return (some e) pos) (tS (wd X C) E (mRet m)) :=
  psW' (ps_ret he) fun D σ H ⟨F, μ, S, R, p⟩ => ⟨F, μ, S, R, (by
    unfold PostS mRet mThen at p
    unfold Post
    cases e1 : m S with
    | fail => rw [e1] at p; exact p
    | exc c d S1 => rw [e1] at p; exact fun F' μ' H' dx v t => p F' μ' σ H' dx v t
    | ok o S1 => rw [e1] at p; exact fun F1 μ1 v H1 t n r => p F1 μ1 σ v H1 t r)⟩
theorem ss_retN : PS X (.Return none pos) (tS (wd X C) E (mRet (ret (.v .non)))) := psW' ps_retN fun D σ H ⟨F, μ, S, R, p⟩ => p F μ σ .non H (Step.refl R) (show DR _ _ _ _ _ from .non)
theorem ss_if (hc : PT X c (tT (wd X C) E mb)) (ha : PSs X sa (tS (wd X C) E a)) (hb : PSs X sb (tS (wd X C) E b)) : PS X (.If c sa sb pos) (tS (wd X C) E (mIfS mb a b)) :=
  psW' (ps_if hc ha hb) fun D σ H ⟨F, μ, S, R, p⟩ => ⟨F, μ, S, R, (PostS.bind p).mono fun v H1 ⟨t, F1, μ1, S1, e1, r1, t1, n1, q1, p1⟩ => by
    obtain rfl : t = v := r1
    cases t with
    | true => exact ⟨F1, μ1, S1, t1.rel, p1⟩
    | false => exact ⟨F1, μ1, S1, t1.rel, p1⟩⟩
theorem ss_for (hp : PassesOwn (model X.prog X.w) X.A X.env X.xe) (hc : X.calm = true) (hi : PI X tg it (tI (wd X C) E mi)) (hg : PG X tg (tGt (wd X C) ws g)) (hx : NoX g) (hb : PSs X sts (tS (wd X C) E b)) (hs : ∀ x, foldedSetIterable it X.env x = pure x) :
    PS X (.For tg it sts [] pos) (tS (wd X C) E (mFor mi g b)) :=
  psW' (ps_for hp hc hi hg hb hs) fun D σ H ⟨F, μ, S, R, p⟩ => ⟨F, μ, S, R, (PostS.bind p).mono fun J H1 ⟨items, F1, μ1, S1, e1, hJ, t1, n1, q1, p1⟩ => by
    refine ⟨fun i m σ' H' => m = items.length - i ∧ i ≤ items.length ∧ ∃ F2 μ2 S2, Sub F1 F2 ∧ Pre μ1 μ2 ∧ Rel (wd X C) F2 μ2 S2 σ' H' ∧ PostS (wd X C) E (forGo g b (items.drop i)) F2 μ2 S2 σ' H' D, ⟨items.length, by simp, Nat.zero_le _, F1, μ1, S1, Sub.refl _, fun _ _ z => z, t1.rel, by simpa using p1⟩, ?_⟩
    rintro i m σ' H' ⟨rfl, hi, F2, μ2, S2, hs, hm, R2, p2⟩
    obtain ⟨hgo, hst⟩ := hJ F2 μ2 S2 σ' H' hs hm R2 i
    by_cases hlt : i < items.length
    · obtain ⟨hg, hy⟩ := hgo hlt
      have hd : items.drop i = items[i] :: items.drop (i + 1) := List.drop_eq_getElem_cons hlt
      rw [hd] at p2
      refine .inr ⟨hg, fun σ'' H'' => i + 1 ≤ items.length ∧ ∃ F2 μ2 S2, Sub F1 F2 ∧ Pre μ1 μ2 ∧ Rel (wd X C) F2 μ2 S2 σ'' H'' ∧ PostS (wd X C) E (forGo g b (items.drop (i + 1))) F2 μ2 S2 σ'' H'' D, fun σ'' H'' z => ⟨items.length - (i + 1), by omega, rfl, z⟩, fun x H3 y => ?_⟩
      obtain ⟨d, F3, ed, ty, rd⟩ := hy x H3 y
      rw [List.getElem?_eq_getElem hlt] at ed
      cases ed
      refine ⟨F3, μ2, S2, _, ty.rel, rd, ?_⟩
      have p3 : PostS (wd X C) E (mSeq (mThen (g items[i]) fun _ => b) (forGo g b (items.drop (i + 1)))) F3 μ2 S2 σ' H3 D := by
        have := PostS.next (a := mSkip) rfl (p := (show PostS (wd X C) E (mSeq mSkip (forGo g b (items[i] :: items.drop (i + 1)))) F2 μ2 S2 σ' H' D from p2)) ty
        exact this
      unfold PostG
      unfold PostS mSeq mThen at p3
      cases eg : g items[i] S2 with
      | fail => rw [eg] at p3; exact p3
      | exc c d S' => exact hx _ _ _ _ _ eg
      | ok u Sg =>
        rw [eg] at p3
        dsimp only at p3
        intro F4 μ4 σ4 H4 tg ng og
        refine ⟨F4, μ4, Sg, tg.rel, ?_⟩
        unfold PostS
        cases eb : b Sg with
        | nx Sb =>
          rw [eb] at p3
          dsimp only at p3
          intro F5 μ5 σ5 H5 tb
          have T := (ty.trans tg).trans tb
          refine ⟨hlt, F5, μ5, Sb, hs.trans T.sub, fun j a z => T.pre j a (hm j a z), T.rel, ?_⟩
          have T2 := tg.trans tb
          show PostS _ _ _ _ _ _ _ _ _
          unfold PostS
          cases ef : forGo g b (items.drop (i + 1)) Sb with
          | nx S'' => rw [ef] at p3; exact fun F'' μ'' σ'' H'' t2 => p3 F'' μ'' σ'' H'' (T2.trans t2)
          | rt o S'' => rw [ef] at p3; exact fun F'' μ'' σ'' v H'' t2 r => p3 F'' μ'' σ'' v H'' (T2.trans t2) (r.back T2.trk)
          | exc c d S'' => rw [ef] at p3; exact fun F'' μ'' σ'' H'' dx v t2 => p3 F'' μ'' σ'' H'' dx v (T2.trans t2)
          | fail => rw [ef] at p3; exact p3
        | rt o S'' => rw [eb] at p3; exact fun F'' μ'' σ'' v H'' t2 r => p3 F'' μ'' σ'' v H'' (tg.trans t2) (r.back tg.trk)
        | exc c d S'' => rw [eb] at p3; exact fun F'' μ'' σ'' H'' dx v t2 => p3 F'' μ'' σ'' H'' dx v (tg.trans t2)
        | fail => rw [eb] at p3; exact p3
    · have ei : i = items.length := by omega
      rw [ei, List.drop_length] at p2
      exact .inl ⟨hst (by omega), p2.skip R2⟩⟩
theorem ss_while {n : Nat} (hp : PassesOwn (model X.prog X.w) X.A X.env X.xe) (hc : PT X c (tT (wd X C) E mb)) (hb : PSs X sts (tS (wd X C) E b)) : PS X (.While c sts [] pos) (tS (wd X C) E (mWhile mb b n)) :=
  psW' (ps_while hp hc hb) fun D σ H ⟨F, μ, S, R, p⟩ => by
    refine ⟨fun m σ' H' => ∃ F2 μ2 S2, Rel (wd X C) F2 μ2 S2 σ' H' ∧ PostS (wd X C) E (mWhile mb b m) F2 μ2 S2 σ' H' D, ⟨n, F, μ, S, R, p⟩, ?_⟩
    rintro m σ' H' ⟨F2, μ2, S2, R2, p2⟩
    cases m with
    | zero => exact p2.elim
    | succ m =>
      refine ⟨F2, μ2, S2, R2, (PostS.bind p2).mono fun v H1 ⟨t, F1, μ1, S1, e1, r1, t1, n1, q1, p1⟩ => ?_⟩
      obtain rfl : t = v := r1
      cases t with
      | false => exact p1.skip t1.rel
      | true =>
        refine ⟨fun σ'' H'' => ∃ F2 μ2 S2, Rel (wd X C) F2 μ2 S2 σ'' H'' ∧ PostS (wd X C) E (mWhile mb b m) F2 μ2 S2 σ'' H'' D, fun σ'' H'' z => ⟨m, Nat.lt_succ_self _, z⟩, F1, μ1, S1, t1.rel, ?_⟩
        exact (PostS.seq (a := b) (b := mWhile mb b m) p1).ends (fun _ _ z => z) fun _ _ z => z
end
end Vi
/-! text Vi18 -/
set_option Elab.async false
set_option linter.all false
set_option maxRecDepth 100000
set_option maxHeartbeats 2000000
/-! Vi, part 18: defs that run where no container is being shown. -/
namespace Vi
open PySem PySem.Spec PyProof.Rows L2

/-- room, and no show under way -/
def RoomG (k : Nat) (A : Around) : Prop := Room k A ∧ A.guards = some []
theorem RoomG.deeper {k : Nat} {A : Around} (r : RoomG (k + 1) A) (env : Env) : RoomG k (A.deeper env) := ⟨r.1.deeper env, r.2⟩
theorem RoomG.mono {j k : Nat} {A : Around} (r : RoomG k A) (h : j ≤ k) : RoomG j A := ⟨r.1.mono h, r.2⟩
structure FnG (P : Program) (w : World) (K : PySem.W.Frag) (mg : Str → Option Value) (base : Heap) (CX : CXT) (k : Nat) (f : Addr) (fd : FuncData) (ps : List Str) (sp : Sp) : Prop where
  len : ∀ vs H Q E, sp vs H Q E → vs.length = ps.length
  run : ∀ (A : Around) (outer : List Env) (s : Shared) (H : Hp) (args : Args) (us : List Value) (vs : List V) (Q : VK) (E : XK), RoomG k A → Env0 P w K mg base A outer s H → BindsTo s fd args (ps.zip us) → Vals vs us → sp vs H Q E → codeAny (model P w) A (.call (.ref f) args) (CR CX outer P w H s Q E) s
theorem FnG.mono {P : Program} {w : World} {K : PySem.W.Frag} {mg : Str → Option Value} {base : Heap} {CX : CXT} {j k : Nat} {f : Addr} {fd : FuncData} {ps : List Str} {sp : Sp} (F : FnG P w K mg base CX j f fd ps sp) (h : j ≤ k) :
    FnG P w K mg base CX k f fd ps sp := ⟨F.len, fun A outer s H args us vs Q E r => F.run A outer s H args us vs Q E (r.mono h)⟩
section
variable {X : Cx} {CX : CXT} {k : Nat} {f C : Addr} {fd : FuncData} {ps : List Str} {sp : Sp} {dvs : List V} {ds : List Value} {E : XK} {x m : Str} {p pos apos : Pos} {e o : Expr} {es : List Expr} {ta : TE} {t : TA}
theorem run_fnG {pins : List (Addr × Obj)} {σ : L2.St} {H : Hp} {s : Shared} {Q : VK} {us : List Value} {vs : List V} (F : FnG X.prog X.w X.K X.mg X.base CX k f fd ps sp) (rmG : RoomG k X.A) (bnd : Binds X.K fd ps ds) (dfl : Vals dvs ds) (pas : Passes CX X E)
    (I : L2.Inv X pins σ H s) (r : Vals vs us) (pr : sp (vs ++ dvs) H Q E) : wpAny (model X.prog X.w) X.A (call (.ref f) us) (EP X pins σ Q) X.xe s := by
  have r2 : Vals (vs ++ dvs) (us ++ ds) := r.append dfl
  have hl : (us ++ ds).length = ps.length := by rw [← r2.length]; exact F.len _ _ _ _ pr
  refine wpAny_call (codeAny_mono (F.run X.A X.stack s H ⟨us, []⟩ (us ++ ds) (vs ++ dvs) Q E rmG I.env0 (bnd s us I.kIn hl) r2 pr) fun r s' en => ?_)
  cases r with
  | error e => exact pas pins σ H s e s' I en
  | ok fl =>
    cases fl with
    | ret u => exact I.after en
    | next => exact False.elim en
    | brk => exact False.elim en
    | cont => exact False.elim en
theorem pe_callG (F : FnG X.prog X.w X.K X.mg X.base CX k f fd ps sp) (r : RoomG k X.A) (hg : Gl X x) (hm : X.mg x = some (.ref f)) (kp : PySem.W.keepIn X.K (.ref f) = true) (bnd : Binds X.K fd ps []) (pas : Passes CX X E)
    (ha : PA X (e :: es) t) (hdb : (x == ("__debug__" : Str)) = false) (he : starEach (e :: es) X.env = (false, eval e X.env) :: starEach es X.env) (hpl : (backTo pos (starEach es X.env)).any (·.1) = false) :
    PE X (.Call (.Name x p) (e :: es) [] pos) (tCall sp [] E t) := ⟨fun pins s σ H Q I h => wpAny_Call_Name_kw (ld_glob I hg hm (PySem.W.callWith_K (h₀ := X.base) I.ok.mod.kin kp
      (thn (ha.run pos pins s σ H _ I h) fun us s1 ⟨vs, H1, I1, rv, q⟩ => ⟨I1.kIn, run_fnG F r bnd .nil pas I1 rv q⟩) he hpl) hdb)⟩
theorem pe_call0G (F : FnG X.prog X.w X.K X.mg X.base CX k f fd ps sp) (r : RoomG k X.A) (hg : Gl X x) (hm : X.mg x = some (.ref f)) (kp : PySem.W.keepIn X.K (.ref f) = true) (bnd : Binds X.K fd ps []) (pas : Passes CX X E)
    (hdb : (x == ("__debug__" : Str)) = false) : PE X (.Call (.Name x p) [] [] pos) (tCall sp [] E tNil) :=
  ⟨fun pins s σ H Q I h => wpAny_Call_Name_kw (ld_glob I hg hm (PySem.W.callWith_K0 I.kIn kp (run_fnG (us := []) F r bnd .nil pas I .nil h)) hdb)⟩
end
theorem fn_ofG {CX : CXT} {P : Program} {w : World} {K : PySem.W.Frag} {mg : Str → Option Value} {base : Heap} {k : Nat} {f : Addr} {name qual : Str} {params : Arguments} {body : List Stmt} {scope : Scope} {dV kV doc pm cdv ct oc : Value} {an od : Option Addr}
    {osl : Array (Option Value)} {N ps : List Str} {sp : Sp} (atK : K.lookup f = some ⟨oc, od, .func (PySem.W.fnOf name qual params body scope dV kV doc pm an cdv ct), osl⟩) (cdK : PySem.W.codeIn K cdv qual = true) (S : FnScope N ps scope)
    (len : ∀ vs H Q E, sp vs H Q E → vs.length = ps.length)
    (body_ok : ∀ (A : Around) (outer : List Env) (s : Shared) (H : Hp) (vs : List V) (Q : VK) (E : XK), RoomG k (A.deeper (envOfC qual scope s.heap.objs.size f cdv)) → sp vs H Q E →
      ∃ t, PSs (cxOf CX P w K mg base N qual scope f cdv A outer s H E) body t ∧ t { nx := fun _ H' => Q .non H', rt := Q } (start N vs) H) :
    FnG P w K mg base CX (k + 1) f (PySem.W.fnOf name qual params body scope dV kV doc pm an cdv ct) ps sp := by
  refine ⟨len, fun A outer s H args us vs Q E rmG en bnd r prm => ?_⟩
  have lenE := len _ _ _ _ prm
  have inK : K.In s.heap := en.mod.kin.keeps fun b o e => (en.bs b o e).1
  have nol : s.heap.NoLimit := en.mod.nolimit.keeps fun b o e => (en.bs b o e).1
  have kinds : ∀ y ∈ ps.zip us, scope.names.lookup y.1 = some .local ∨ (scope.names.lookup y.1 = some .cell ∧ ((cellsFrom (s.heap.objs.size + 1) scope.names []).lookup y.1).isSome = true) := fun ⟨n, v⟩ hy => by
    rcases S.par n (List.of_mem_zip hy).1 with q | q
    · exact .inl q
    · exact .inr ⟨q, PySem.W.cellsFrom_some _ _ _ (.inl q)⟩
  refine codeAny_call_function rmG.1.depth (inK _ _ atK) rfl S.co S.gen rfl (PySem.W.codeRec_of inK cdK) (bnd _ _ _ _ ?_)
  refine wpAny_newFunctionEnv_cells S.kind kinds fun env he s1 x => ?_
  subst he
  refine ⟨nol.keeps x.toInCall.keep, codeAny_func ?_⟩
  obtain ⟨t, ht, hq⟩ := body_ok A outer s H vs Q E (rmG.deeper _) prm
  have I : L2.Inv (cxOf CX P w K mg base N qual scope f cdv A outer s H E) [] (start N vs) H s1 := inv_start S rmG.1.hd en lenE r x
  refine wpAny_mono (ht.run [] s1 (start N vs) H _ I hq) (fun fl s' hs => ?_) fun e s' hs => hs
  have fin : ∀ {σ' : L2.St} {H' : Hp} {v : V} {u : Value}, L2.Inv (cxOf CX P w K mg base N qual scope f cdv A outer s H E) [] σ' H' s' → RelV v u → Q v H' → CE outer P w H s Q u s' :=
    fun {σ' H' v u} J rv q => ⟨v, H', J.os, J.bare, J.base, J.hok, rv, q⟩
  cases fl with
  | ret u =>
    obtain ⟨v, σ', H', J, rv, q⟩ := hs
    exact fin J rv q
  | next =>
    obtain ⟨σ', H', J, q⟩ := hs
    exact fin (v := V.non) (u := Value.none) J rfl q
  | brk =>
    obtain ⟨_, _, _, q⟩ := hs
    exact False.elim q
  | cont =>
    obtain ⟨_, _, _, q⟩ := hs
    exact False.elim q
theorem law_callG {P : Program} {w : World} {K : PySem.W.Frag} {mg mb : Str → Option Value} {CX : CXT} {k : Nat} {fa a : Addr} {fd : FuncData} {x : Str} {sp : Sp} {s₁ : Shared} {vs : List Value} {ns : List Int}
    (inK : K.In s₁.heap) (nsM : s₁.heap.Ns mainGlobals mg) (nsU : s₁.heap.Ns builtinsNs mb) (blts : ∀ x : Str, x ≠ "__name__" → mb x = bootBuiltins x) (nol : s₁.heap.NoLimit) (gn0 : s₁.gens = #[])
    (lsA : s₁.heap.get? a = some { cls := .type "list", data := .seq vs.toArray }) (intsV : IntsAre vs ns) (fewV : ns.length ≤ sizeLine) (rmG : RoomG k callerA)
    (F : ∀ base : Heap, K.In base → base.Ns mainGlobals mg → FnG P w K mg base CX k fa fd [x] sp) (bnd : ∀ (s : Shared) (u : Value), BindsTo s fd ⟨[u], []⟩ [(x, u)])
    (prm : ∀ H : Hp, Only H → SqL K H a (ns.map V.int) → sp [.ref a] H (fun v _ => v = .bl true) fun _ _ _ => False)
    (noX : ∀ H e s', CX [] H s₁ (fun _ _ _ => False) e s' → False) :
    codeAny (model P w) callerA (.call (.ref fa) ⟨[.ref a], []⟩) (fun r s' => r = .ok (.ret (.bool true)) ∧ OldK s₁.heap s'.heap ∧ s'.os = s₁.os ∧ AllBare s'.gens) s₁ := by
  have relI := vals_ints intsV
  have lnI := intsV.length
  -- from an abstract heap in which nothing but the script may be tracked
  have fromH : ∀ H : Hp, Only H → SqL K H a (ns.map V.int) → HOk P w H s₁.heap → (∀ b, H b ≠ none → b = a) → (H a ≠ none → K.lookup a = none) →
      codeAny (model P w) callerA (.call (.ref fa) ⟨[.ref a], []⟩) (fun r s' => r = .ok (.ret (.bool true)) ∧ OldK s₁.heap s'.heap ∧ s'.os = s₁.os ∧ AllBare s'.gens) s₁ := by
    intro H onl sqS okH onA offK
    have toB : ∀ {b : Addr} {o : Obj}, s₁.heap.get? b = some o → H b = none → (hidT s₁.heap H).get? b = some o := fun e n => hidT_get e n
    have dicN : ∀ {b : Addr} {o : Obj} {es : Array DictEntry} {ep : Nat}, s₁.heap.get? b = some o → o.data = .dict es ep → H b = none := fun {b o es ep} e d => by
      cases q : H b with
      | none => rfl
      | some u =>
        have e' : b = a := onA b (by rw [q]; simp)
        subst e'
        rw [lsA] at e; cases e
        have d' : Data.seq vs.toArray _ = Data.dict es ep := d
        cases d'
    have nsB : ∀ {b : Addr} {m : Str → Option Value}, s₁.heap.Ns b m → (hidT s₁.heap H).Ns b m := fun {b m} ⟨o, es, ep, e, d, r⟩ => ⟨o, es, ep, toB e (dicN e d), d, r⟩
    have inB : K.In (hidT s₁.heap H) := fun b o e => toB (inK b o e) (by
      cases q : H b with
      | none => rfl
      | some u =>
        have e' : b = a := onA b (by rw [q]; simp)
        subst e'
        rw [offK (by rw [q]; simp)] at e; cases e)
    have modB : Mod K mg (hidT s₁.heap H) := ⟨inB, nsB nsM, ⟨mb, nsB nsU, blts⟩, let ⟨mc, h1, h2⟩ := nol; ⟨mc, nsB h1, h2⟩⟩
    have env9 : Env0 P w K mg (hidT s₁.heap H) callerA [] s₁ H := ⟨rfl, modB, fun b o e => of_hidT e, Nat.le_of_eq (hidT_size _ _), trivial, fun b nsU => absurd (show b ∈ ([] : List Addr) from nsU) (by simp), okH, .of_eq gn0⟩
    refine codeAny_mono ((F _ inB (nsB nsM)).run callerA [] s₁ H ⟨[.ref a], []⟩ [.ref a] [.ref a] _ _ rmG env9 (bnd s₁ (.ref a)) (.cons rfl .nil) (prm H onl sqS)) fun r s' h => ?_
    cases r with
    | error e => exact (noX H e s' h).elim
    | ok fl =>
      cases fl with
      | next => exact False.elim h
      | brk => exact False.elim h
      | cont => exact False.elim h
      | ret u =>
        obtain ⟨v, H', osE, brE, unE, okE, relE, q⟩ := h
        have q' : v = .bl true := q
        subst q'
        obtain rfl : u = Value.bool true := relE
        refine ⟨rfl, OldK.of_keep fun b o e => ?_, osE, brE⟩
        cases q : H b with
        | none => exact unE.keep b o e q (by intro z; exact absurd (show b ∈ ([] : List Addr) from z) (by simp)) (by simp)
        | some u =>
          rcases onl b with z | ⟨ob, xs, z⟩
          · rw [q] at z; cases z
          · have z2 := unE.frzs b ob _ z
            obtain ⟨e1, _⟩ := okH b _ z
            obtain ⟨e2, _⟩ := okE b _ z2
            rw [e] at e1; cases e1
            exact e2
  cases hk : K.lookup a with
  | some o =>
    -- the script is one of the module's own objects
    have e := inK a o hk
    rw [lsA] at e
    cases e
    refine fromH (fun _ => none) (fun _ => .inl rfl) (.inr ⟨_, vs.toArray, _, hk, rfl, rfl, rfl, by rw [List.size_toArray, lnI]; exact fewV, by simpa using relI⟩) (fun b u z => by have z' : (none : Option HO) = some u := z; cases z') (fun b z => absurd rfl z) fun z => absurd rfl z
  | none =>
    refine fromH (fun b => if b = a then some (.frz { cls := .type "list", data := .seq vs.toArray } (.lst (ns.map V.int))) else none) (fun b => ?_) (.inl (.inr ⟨{ cls := .type "list", data := .seq vs.toArray }, if_pos rfl⟩)) (fun b u z => ?_) (fun b z => ?_) fun _ => hk
    · by_cases nsU : b = a
      · exact .inr ⟨_, _, if_pos nsU⟩
      · exact .inl (if_neg nsU)
    · by_cases nsU : b = a
      · have z' := (if_pos nsU).symm.trans z
        cases z'
        subst nsU
        exact ⟨lsA, by rw [List.length_map]; exact fewV, vs, _, relI, lsA⟩
      · have z' := (if_neg nsU).symm.trans z
        cases z'
    · by_cases nsU : b = a
      · exact nsU
      · exact absurd (if_neg nsU) z
theorem walk_G {l : PySem.W.OpenLaw} {n k : Nat} {q : Program} {loose : List Str} {XP : (Str → Option Value) → Heap → Prop} {YP : World → Heap → Prop} {d : DefRec} {CX : CXT} {x : Str}
    (hn : l.most = some n) (hn2 : n ≤ sizeLine) (hdf : d.params.defaults = []) (r : RoomG k callerA)
    (F : ∀ (w : World) (mg : Str → Option Value) (fa : Addr) (h : Heap), YP w h → h.Ns mainGlobals mg → mg d.name = some (.ref fa) →
      ∃ (K : PySem.W.Frag) (fd : FuncData) (sp : Sp), K.In h ∧ (∀ (s : Shared) (u : Value), BindsTo s fd ⟨[u], []⟩ [(x, u)]) ∧
        (∀ (H : Hp) (a : Addr) (ns : List Int), ns.length ≤ n → Only H → SqL K H a (ns.map V.int) → sp [.ref a] H (fun v _ => v = .bl true) fun _ _ _ => False) ∧
        ∀ base : Heap, K.In base → base.Ns mainGlobals mg → FnG l.prog w K mg base CX k fa fd [x] sp)
    (noX : ∀ (H : Hp) (s : Shared) (e : Value) (s' : Shared), CX [] H s (fun _ _ _ => False) e s' → False) :
    PySem.W.WalkO q loose XP YP l.row.toRowW d [] (fun f vs => PySem.call f vs) :=
  Att.attach_call hn hdf fun w s₀ s₁ mg mb fa o pm cd doc a vs ns G Y ho hd hcd hmg hobj hints hlen hg =>
    let ⟨K, fd, sp, inK, bnd, prm, hF⟩ := F w mg fa _ Y G.T.g hmg
    law_callG inK G.T.g G.T.b G.T.builtins G.T.nolimit hg hobj hints (Nat.le_trans hlen hn2) r hF bnd (fun H h1 h2 => prm H a ns hlen h1 h2) fun H e s' => noX H s₁ e s'
end Vi
/-! text Vi19 -/
set_option Elab.async false
set_option linter.all false
set_option maxRecDepth 100000
set_option maxHeartbeats 1000000
/-! Vi, part 19: a def by its body; built-in functions. -/
namespace Vi
open PySem PySem.Spec PyProof.Rows L2

/-- what Vi makes of a body -/
def cfOf (L : Nat) (m : MS) : Cf := fun ds h => match m ⟨ds.map Sl.s ++ List.replicate (L - ds.length) Sl.e, h⟩ with
  | .nx s => .ok .non false s.h
  | .rt (.v d) s => .ok d false s.h
  | .rt (.w d) s => .ok d true s.h
  | .rt (.at i) s => (match s.σ[i]? with
    | some (.s d) => .ok d false s.h
    | some (.o d) => .ok d true s.h
    | _ => .fail)
  | .exc c d s => .exc c d s.h
  | .fail => .fail
section
variable {W : Wd} {E : XK} {F F' : Hp} {μ μ' : List Addr} {S S' : St} {σ σ' : L2.St} {H H' : Hp} {h h' : List D} {ds : List D} {vs : List V} {N : List Str}
abbrev ent (L : Nat) (ds : List D) (h : List D) : St := ⟨ds.map Sl.s ++ List.replicate (L - ds.length) Sl.e, h⟩
theorem ent_own {L : Nat} {a : Addr} : ¬ Own (ent L ds h) σ a := fun ⟨i, d, e, _⟩ => by
  have := List.mem_of_getElem? e
  simp at this
theorem ent_rel (R : Rel W F μ (S0 h) [] H) (r : DRs W F μ ds vs) (hl : vs.length ≤ N.length) : Rel W F μ (ent N.length ds h) (L2.start N vs) H := by
  have e := r.length
  refine ⟨by simp only [L2.start, List.length_append, List.length_map, List.length_replicate]; omega, R.sub, fun i d q => ?_, fun i d q => absurd (List.mem_of_getElem? q) (by simp), fun i j d d' a q => absurd (List.mem_of_getElem? q) (by simp), R.hl, R.hp, R.inj, R.tab⟩
  by_cases hi : i < ds.length
  · have q : (ds.map Sl.s ++ List.replicate (N.length - ds.length) Sl.e)[i]? = some (.s d) := q
    rw [List.getElem?_append_left (by simpa using hi), List.getElem?_map, List.getElem?_eq_getElem hi] at q
    cases q
    obtain ⟨v, h1, h2⟩ := r.get (List.getElem?_eq_getElem hi)
    exact ⟨v, by unfold L2.start; rw [List.getElem?_append_left (by simp; omega), List.getElem?_map, h1]; rfl, h2⟩
  · have q : (ds.map Sl.s ++ List.replicate (N.length - ds.length) Sl.e)[i]? = some (.s d) := q
    rw [List.getElem?_append_right (by simpa using hi)] at q
    exact absurd (List.mem_of_getElem? q) (by simp)
/-- a step of the frame is one of the caller -/
theorem Step.out {L : Nat} (t : Step W F μ (ent L ds h) σ H F' μ' S' σ' H') : Step W F μ (S0 h) [] H F' μ' (S0 S'.h) [] H' :=
  ⟨t.sub, t.pre, Rel.bare t.rel, fun a u h1 nt h2 _ => t.keep a u h1 nt h2 ent_own, t.trk, fun a z => absurd z no_own, t.fr, fun a z => (t.fnew a z).elim .inl fun z => z.elim (fun z => .inr (.inl z)) fun z => z.elim (fun z => absurd z ent_own) fun z => .inr (.inr (.inr z))⟩
theorem cf_post {m : MS} {Q : VK} (R : Rel W F μ (S0 h) [] H) (r : DRs W F μ ds vs) (hl : vs.length ≤ N.length) (p : Post W E (OR W) (mCallC (cfOf N.length m) ds) F μ (S0 h) [] H Q) :
    PostS W E m F μ (ent N.length ds h) (L2.start N vs) H { nx := fun _ H' => Q .non H', rt := Q } := by
  unfold Post mCallC cfOf at p
  unfold PostS
  cases e : m (ent N.length ds h) with
  | fail => rw [e] at p; exact p
  | nx S' =>
    rw [e] at p
    exact fun F' μ' σ' H' t => p F' μ' .non H' t.out (fun i ⟨d, z⟩ => by simp at z) (show DR _ _ _ _ _ from .non)
  | exc c d S' => rw [e] at p; exact fun F' μ' σ' H' dx v t => p F' μ' H' dx v t.out
  | rt o S' =>
    rw [e] at p
    intro F' μ' σ' v H' t ro
    have ne : Ne (S0 h) (S0 S'.h) := fun i ⟨d, z⟩ => by simp at z
    have own : ∀ {d : D}, OR W H F' μ' S' σ' H' (.w d) v → OR W H F' μ' (S0 S'.h) [] H' (.w d) v := fun ⟨a, h1, h2, h3, h4, _, h6⟩ => ⟨a, h1, h2, h3, h4, no_own, h6⟩
    cases o with
    | v d => exact p F' μ' v H' t.out ne ro
    | w d => exact p F' μ' v H' t.out ne (own ro)
    | «at» i =>
      obtain ⟨hv, d, hd⟩ := ro
      rcases hd with hd | hd
      · simp only [hd] at p
        obtain ⟨v', k1, k2⟩ := t.rel.sl i d hd
        rw [hv] at k1; cases k1
        exact p F' μ' v H' t.out ne k2
      · simp only [hd] at p
        obtain ⟨a, k1, l, hm, hf⟩ := t.rel.ow i d hd
        rw [hv] at k1; cases k1
        refine p F' μ' _ H' t.out ne ⟨a, rfl, l, hm, hf, no_own, ?_⟩
        rcases t.own a ⟨i, d, hd, hv⟩ with z | z
        · exact absurd z ent_own
        · exact z
end
/-- A DEF -/
theorem fnG_vi {CX : CXT} {P : Program} {w : World} {K : PySem.W.Frag} {mg : Str → Option Value} {base : Heap} {k : Nat} {f : Addr} {name qual : Str} {params : Arguments} {body : List Stmt} {scope : Scope} {dV kV doc pm cdv ct oc : Value} {an od : Option Addr}
    {osl : Array (Option Value)} {N ps : List Str} {C : Cc} {m : MS} (lk : K.lookup f = some ⟨oc, od, .func (PySem.W.fnOf name qual params body scope dV kV doc pm an cdv ct), osl⟩) (hcd : PySem.W.codeIn K cdv qual = true) (S : FnScope N ps scope) (hN : ps.length ≤ N.length)
    (hb : ∀ (A : Around) (outer : List Env) (s : Shared) (H : Hp) (E : XK), RoomG k (A.deeper (envOfC qual scope s.heap.objs.size f cdv)) → PSs (cxOf CX P w K mg base N qual scope f cdv A outer s H E) body (tS ⟨P, w, K, C⟩ E m)) :
    FnG P w K mg base CX (k + 1) f (PySem.W.fnOf name qual params body scope dV kV doc pm an cdv ct) ps (spF ⟨P, w, K, C⟩ ps.length (cfOf N.length m)) :=
  fn_ofG lk hcd S (fun vs H Q E h => h.1) fun A outer s H vs Q E r ⟨hl, F, μ, ds, h, R, rd, p⟩ =>
    ⟨_, hb A outer s H E r, F, μ, _, ent_rel R rd (by omega), cf_post R rd (by omega) p⟩
/-- no promise -/
theorem fnG_none {CX : CXT} {P : Program} {w : World} {K : PySem.W.Frag} {mg : Str → Option Value} {base : Heap} {k : Nat} {f : Addr} {fd : FuncData} {ps : List Str} {W : Wd} {cf : Cf} (h : ∀ ds s, cf ds s = .fail) : FnG P w K mg base CX k f fd ps (spF W ps.length cf) :=
  ⟨fun vs H Q E z => z.1, fun A outer s H args us vs Q E _ _ _ _ ⟨_, F, μ, ds, h', _, _, p⟩ => by unfold Post mCallC at p; rw [h] at p; exact p.elim⟩

section
variable {X : Cx} {C : Cc} {CX : CXT} {k n : Nat} {f : Addr} {fd : FuncData} {ps : List Str} {cf : Cf} {E : XK} {x : Str} {p pos : Pos} {e : Expr} {es : List Expr} {m : M (List D)}
theorem se_callG (Fn : FnG X.prog X.w X.K X.mg X.base CX k f fd ps (spF (wd X C) n cf)) (hr : RoomG k X.A) (hg : Gl X x) (hm : X.mg x = some (.ref f)) (hk : PySem.W.keepIn X.K (.ref f) = true) (hb : Binds X.K fd ps []) (hx : Passes CX X E)
    (ha : PA X (e :: es) (tDs (wd X C) E m)) (hdb : (x == ("__debug__" : Str)) = false) (he : starEach (e :: es) X.env = (false, eval e X.env) :: starEach es X.env) (hpl : (backTo pos (starEach es X.env)).any (·.1) = false) :
    PE X (.Call (.Name x p) (e :: es) [] pos) (tE (wd X C) E (mCall n cf m)) :=
  peW (pe_callG Fn hr hg hm hk hb hx ha hdb he hpl) fun σ H Q ⟨F, μ, S, R, p⟩ => ⟨F, μ, S, R, (Post.bind p).mono fun vs H1 ⟨ds, F1, μ1, S1, r1, t1, n1, p1⟩ => by
    rw [List.append_nil]
    obtain ⟨hl, p2⟩ := mapp p1
    exact call_sp t1.rel r1 hl p2⟩
theorem se_call0G (Fn : FnG X.prog X.w X.K X.mg X.base CX k f fd ps (spF (wd X C) n cf)) (hr : RoomG k X.A) (hg : Gl X x) (hm : X.mg x = some (.ref f)) (hk : PySem.W.keepIn X.K (.ref f) = true) (hb : Binds X.K fd ps []) (hx : Passes CX X E)
    (hdb : (x == ("__debug__" : Str)) = false) : PE X (.Call (.Name x p) [] [] pos) (tE (wd X C) E (mCall n cf mNil)) :=
  peW (pe_call0G Fn hr hg hm hk hb hx hdb) fun σ H Q ⟨F, μ, S, R, p⟩ => by
    have p1 : Post (wd X C) E (OR (wd X C)) (if ([] : List D).length = n then mCallC cf [] else fail) F μ S σ H Q := p
    obtain ⟨hl, p2⟩ := mapp p1
    exact call_sp R .nil hl p2
end

/-! ### built-in functions: the arguments are read -/
def mONil : M (List O) := ret []
def mOCons (a : M O) (b : M (List O)) : M (List O) := bind a fun o => bind b fun os => ret (o :: os)
def rdhs : List O → M (List D)
  | [] => ret []
  | o :: os => bind (rdh o) fun d => bind (rdhs os) fun ds => ret (d :: ds)
def mBi (k : List D → M O) (m : M (List O)) : M O := bind m fun os => bind (rdhs os) k
inductive LRs (W : Wd) (F : Hp) (μ : List Addr) (H : Hp) : List D → List V → Prop
  | nil : LRs W F μ H [] []
  | cons {d : D} {ds : List D} {v : V} {vs : List V} : LR W F μ H d v → LRs W F μ H ds vs → LRs W F μ H (d :: ds) (v :: vs)
def rB (W : Wd) (E : XK) (k : List D → M O) : List V → Hp → VK → Prop := fun xs H Q => ∃ F μ S σ ds, Rel W F μ S σ H ∧ LRs W F μ H ds xs ∧ Post W E (OR W) (k ds) F μ S σ H Q
section
variable {W : Wd} {E : XK} {F : Hp} {μ : List Addr} {S : St} {σ : L2.St} {H H0 : Hp} {X : Cx} {C : Cc} {e : Expr} {es : List Expr}
theorem so_nil : PA X [] (tA (wd X C) E mONil) := paW pa_nil fun σ H Q ⟨F, μ, S, R, p⟩ => Post.ret p R (b := []) ORs.nil
theorem so_cons {ma : M O} {mr : M (List O)} (ha : PE X e (tE (wd X C) E ma)) (hr : PA X es (tA (wd X C) E mr)) (hs : starEach (e :: es) X.env = (false, eval e X.env) :: starEach es X.env) : PA X (e :: es) (tA (wd X C) E (mOCons ma mr)) :=
  paW (pa_cons ha hr hs) fun σ H Q ⟨F, μ, S, R, p⟩ => ⟨F, μ, S, R, (by
    unfold Post mOCons Vi.bind at p
    unfold Post
    cases e1 : ma S with
    | fail => rw [e1] at p; exact p
    | exc c d S1 => rw [e1] at p; exact p
    | ok o S1 =>
      rw [e1] at p
      dsimp only at p
      intro F1 μ1 v H1 t1 n1 r1
      refine ⟨F1, μ1, S1, t1.rel, ?_⟩
      unfold Post
      cases e2 : mr S1 with
      | fail => rw [e2] at p; exact p
      | exc c d S2 => rw [e2] at p; exact fun F2 μ2 H2 dx v t2 => p F2 μ2 H2 dx v (t1.trans t2)
      | ok os S2 => rw [e2] at p; exact fun F2 μ2 vs H2 t2 n2 r2 => p F2 μ2 (v :: vs) H2 (t1.trans t2) (n1.trans n2) (.cons (r1.step t2 n2) (r2.back t1.trk)))⟩
theorem rdhs_post {k : List D → M O} {Q : VK} (R : Rel W F μ S σ H) : ∀ {os : List O} {vs : List V} {g : List D → M O}, ORs W H0 F μ S σ H os vs → Post W E (OR W) (Vi.bind (rdhs os) g) F μ S σ H Q → ∃ ds, LRs W F μ H ds vs ∧ Post W E (OR W) (g ds) F μ S σ H Q
  | _, _, g, .nil, p => ⟨[], .nil, p⟩
  | _, _, g, .cons (o := o) (os := os) a t, p => by
    have e : Vi.bind (rdhs (o :: os)) g = Vi.bind (rdh o) fun d => Vi.bind (rdhs os) fun ds => g (d :: ds) := by
      funext s
      show Vi.bind (Vi.bind (rdh o) fun d => Vi.bind (rdhs os) fun ds => ret (d :: ds)) g s = _
      unfold Vi.bind
      cases rdh o s with
      | fail => rfl
      | exc c d s' => rfl
      | ok d s1 => dsimp only; cases rdhs os s1 <;> rfl
    rw [e] at p
    obtain ⟨d, h1, p2⟩ := Post.rdh p R a
    obtain ⟨ds, h2, p3⟩ := rdhs_post (k := k) R t p2
    exact ⟨d :: ds, .cons h1 h2, p3⟩
theorem rB_of {k : List D → M O} {m : M (List O)} {σ : L2.St} {H : Hp} {Q : VK} (h : tE W E (mBi k m) σ H Q) : tA W E m σ H fun vs H1 => rB W E k vs H1 Q := by
  obtain ⟨F, μ, S, R, p⟩ := h
  refine ⟨F, μ, S, R, (Post.bind p).mono fun vs H1 ⟨os, F1, μ1, S1, r1, t1, n1, p1⟩ => ?_⟩
  obtain ⟨ds, h1, p2⟩ := rdhs_post (k := k) t1.rel r1 p1
  exact ⟨F1, μ1, S1, σ, ds, t1.rel, h1, p2⟩
variable {x : Str} {p pos : Pos} {k : List D → M O} {m : M (List O)} {id T : String}
theorem se_biB (hc : CallR X (.builtin id) (rB (wd X C) E k)) (hg : Gl X x) (hm : X.mg x = none) (hv : bootBuiltins x = some (.builtin id)) (ha : PA X (e :: es) (tA (wd X C) E m)) (hn : x ≠ "__name__") (hdb : (x == ("__debug__" : Str)) = false)
    (he : starEach (e :: es) X.env = (false, eval e X.env) :: starEach es X.env) (hpl : (backTo pos (starEach es X.env)).any (·.1) = false) : PE X (.Call (.Name x p) (e :: es) [] pos) (tE (wd X C) E (mBi k m)) :=
  peW (pe_callB hc hg hm hv ha hn hdb he hpl) fun σ H Q h => rB_of h
theorem se_biT (hc : CallR X (.type T) (rB (wd X C) E k)) (hg : Gl X x) (hm : X.mg x = none) (hv : bootBuiltins x = some (.type T)) (ha : PA X (e :: es) (tA (wd X C) E m)) (hn : x ≠ "__name__") (hdb : (x == ("__debug__" : Str)) = false)
    (he : starEach (e :: es) X.env = (false, eval e X.env) :: starEach es X.env) (hpl : (backTo pos (starEach es X.env)).any (·.1) = false) : PE X (.Call (.Name x p) (e :: es) [] pos) (tE (wd X C) E (mBi k m)) :=
  peW (pe_callTy hc hg hm hv ha hn hdb he hpl) fun σ H Q h => rB_of h
theorem callW {f : Value} {r u : List V → Hp → VK → Prop} (h : CallR X f r) (w : ∀ xs H Q, u xs H Q → r xs H Q) : CallR X f u := fun pins s σ H xs us Q I rv q => h pins s σ H xs us Q I rv (w xs H Q q)
end
end Vi
/-! text Vi20 -/
set_option Elab.async false
set_option linter.all false
set_option maxRecDepth 100000
set_option maxHeartbeats 1000000
/-! Vi, part 20: len, abs, int, min, max, sum, all, any, sorted, tuple, list, isinstance. -/
namespace Vi
open PySem PySem.Spec PyProof.Rows L2

def intsOf : List D → Option (List Int)
  | [] => some []
  | .int i :: r => (intsOf r).map (i :: ·)
  | _ => none
def blsOf : List D → Option (List Bool)
  | [] => some []
  | .bl i :: r => (blsOf r).map (i :: ·)
  | _ => none
def insI (i : Int) : List Int → List Int
  | [] => [i]
  | j :: r => if i ≤ j then i :: j :: r else j :: insI i r
def sortI : List Int → List Int
  | [] => []
  | i :: r => insI i (sortI r)
def maxI : Int → List Int → Int
  | m, [] => m
  | m, i :: r => maxI (if m < i then i else m) r
def minI : Int → List Int → Int
  | m, [] => m
  | m, i :: r => minI (if i < m then i else m) r
def tyN : D → Option String
  | .non => some "NoneType"
  | .bl _ => some "bool"
  | .int _ => some "int"
  | .str _ => some "str"
  | .tup _ => some "tuple"
  | .lst _ => some "list"
  | _ => none
def tyIn (t : String) : List String := if t = "bool" then ["bool", "int"] else [t]
def kLen : List D → M O
  | [.lst xs] => ret (.v (.int (xs.length : Int)))
  | [.tup xs] => ret (.v (.int (xs.length : Int)))
  | [.str x] => if x.length ≤ line then ret (.v (.int (x.length : Int))) else fail
  | [.dct ks _] => ret (.v (.int (ks.length : Int)))
  | _ => fail
def kAbs : List D → M O
  | [.int i] => ret (.v (.int (if i < 0 then -i else i)))
  | _ => fail
def kInt : List D → M O
  | [.int i] => ret (.v (.int i))
  | [.bl b] => ret (.v (.int (if b then 1 else 0)))
  | _ => fail
def kMax : List D → M O
  | [.int i, .int j] => ret (.v (.int (if j > i then j else i)))
  | [.lst xs] => (match intsOf xs with
    | some (n :: ns) => ret (.v (.int (maxI n ns)))
    | _ => fail)
  | _ => fail
def kMin : List D → M O
  | [.int i, .int j] => ret (.v (.int (if j < i then j else i)))
  | [.lst xs] => (match intsOf xs with
    | some (n :: ns) => ret (.v (.int (minI n ns)))
    | _ => fail)
  | _ => fail
def kSum : List D → M O
  | [.lst xs] => (match intsOf xs with
    | some ns => ret (.v (.int ns.sum))
    | none => fail)
  | _ => fail
def kAll : List D → M O
  | [.lst xs] => (match blsOf xs with
    | some bs => ret (.v (.bl (bs.all id)))
    | none => fail)
  | _ => fail
def kAny : List D → M O
  | [.lst xs] => (match blsOf xs with
    | some bs => ret (.v (.bl (bs.any id)))
    | none => fail)
  | _ => fail
def kTup : List D → M O
  | [.lst xs] => ret (.v (.tup xs))
  | [.tup xs] => ret (.v (.tup xs))
  | _ => fail
def kLst : List D → M O
  | [.lst xs] => ret (.w (.lst xs))
  | [.tup xs] => ret (.w (.lst xs))
  | _ => fail
def kIsi : List D → M O
  | [d, .ty c] => (match tyN d with
    | some t => if ["int", "bool", "str", "tuple", "list", "dict"].contains c then ret (.v (.bl ((tyIn t).contains c))) else fail
    | none => fail)
  | _ => fail

theorem intsOf_v {W : Wd} {F : Hp} {μ : List Addr} : ∀ {xs : List D} {vs : List V} {ns : List Int}, DRs W F μ xs vs → intsOf xs = some ns → vs = ns.map V.int
  | [], _, _, .nil, e => by cases e; rfl
  | d :: xs, _, ns, .cons a t, e => by
    cases a with
    | int i =>
      simp only [intsOf, Option.map_eq_some_iff] at e
      obtain ⟨ms, e1, rfl⟩ := e
      rw [intsOf_v t e1]; rfl
    | _ => simp [intsOf] at e
theorem blsOf_v {W : Wd} {F : Hp} {μ : List Addr} : ∀ {xs : List D} {vs : List V} {ns : List Bool}, DRs W F μ xs vs → blsOf xs = some ns → vs = ns.map V.bl
  | [], _, _, .nil, e => by cases e; rfl
  | d :: xs, _, ns, .cons a t, e => by
    cases a with
    | bl i =>
      simp only [blsOf, Option.map_eq_some_iff] at e
      obtain ⟨ms, e1, rfl⟩ := e
      rw [blsOf_v t e1]; rfl
    | _ => simp [blsOf] at e
theorem maxI_ge : ∀ (ns : List Int) (m : Int), m ≤ maxI m ns ∧ (∀ y ∈ ns, y ≤ maxI m ns) ∧ (maxI m ns = m ∨ maxI m ns ∈ ns)
  | [], m => ⟨Int.le_refl _, by simp, .inl rfl⟩
  | i :: r, m => by
    obtain ⟨h1, h2, h3⟩ := maxI_ge r (if m < i then i else m)
    have a1 : m ≤ (if m < i then i else m) := by split <;> omega
    have a2 : i ≤ (if m < i then i else m) := by split <;> omega
    simp only [maxI]
    refine ⟨Int.le_trans a1 h1, fun y hy => ?_, ?_⟩
    · rcases List.mem_cons.mp hy with rfl | hy
      · exact Int.le_trans a2 h1
      · exact h2 y hy
    · rcases h3 with h3 | h3
      · rw [h3]
        split
        · exact .inr (by simp)
        · exact .inl rfl
      · exact .inr (List.mem_cons_of_mem _ h3)
theorem minI_le : ∀ (ns : List Int) (m : Int), minI m ns ≤ m ∧ (∀ y ∈ ns, minI m ns ≤ y) ∧ (minI m ns = m ∨ minI m ns ∈ ns)
  | [], m => ⟨Int.le_refl _, by simp, .inl rfl⟩
  | i :: r, m => by
    obtain ⟨h1, h2, h3⟩ := minI_le r (if i < m then i else m)
    have a1 : (if i < m then i else m) ≤ m := by split <;> omega
    have a2 : (if i < m then i else m) ≤ i := by split <;> omega
    simp only [minI]
    refine ⟨Int.le_trans h1 a1, fun y hy => ?_, ?_⟩
    · rcases List.mem_cons.mp hy with rfl | hy
      · exact Int.le_trans h1 a2
      · exact h2 y hy
    · rcases h3 with h3 | h3
      · rw [h3]
        split
        · exact .inr (by simp)
        · exact .inl rfl
      · exact .inr (List.mem_cons_of_mem _ h3)
theorem insI_perm (i : Int) : ∀ l : List Int, (insI i l).Perm (i :: l)
  | [] => .refl _
  | j :: r => by
    unfold insI
    split
    · exact .refl _
    · exact ((insI_perm i r).cons j).trans (.swap i j r)
theorem sortI_perm : ∀ l : List Int, (sortI l).Perm l
  | [] => .refl _
  | i :: r => (insI_perm i (sortI r)).trans ((sortI_perm r).cons i)
theorem insI_sorted (i : Int) : ∀ {l : List Int}, l.Pairwise (· ≤ ·) → (insI i l).Pairwise (· ≤ ·)
  | [], _ => List.pairwise_singleton _ _
  | j :: r, h => by
    obtain ⟨h1, h2⟩ := List.pairwise_cons.mp h
    unfold insI
    split
    · rename_i hij
      exact List.pairwise_cons.mpr ⟨fun y hy => (List.mem_cons.mp hy).elim (fun z => z ▸ hij) fun z => Int.le_trans hij (h1 y z), h⟩
    · rename_i hij
      refine List.pairwise_cons.mpr ⟨fun y hy => ?_, insI_sorted i h2⟩
      rcases List.mem_cons.mp ((insI_perm i r).mem_iff.mp hy) with rfl | hy
      · omega
      · exact h1 y hy
theorem sortI_sorted : ∀ l : List Int, (sortI l).Pairwise (· ≤ ·)
  | [] => List.Pairwise.nil
  | i :: r => insI_sorted i (sortI_sorted r)
theorem sorted_eq {a b : List Int} (p : a.Perm b) (ha : a.Pairwise (· ≤ ·)) (hb : b.Pairwise (· ≤ ·)) : a = b := p.eq_of_pairwise (fun x y _ _ h1 h2 => Int.le_antisymm h1 h2) ha hb
section
variable {W : Wd} {E : XK} {F : Hp} {μ : List Addr} {S : St} {σ : L2.St} {H H0 : Hp} {X : Cx} {C : Cc} {xs : List D} {v : V} {vs : List V}
theorem LRs.one {d : D} (h : LRs W F μ H [d] vs) : ∃ v, vs = [v] ∧ LR W F μ H d v := by
  cases h with
  | cons a t => cases t; exact ⟨_, rfl, a⟩
theorem LRs.two {d e : D} (h : LRs W F μ H [d, e] vs) : ∃ u v, vs = [u, v] ∧ LR W F μ H d u ∧ LR W F μ H e v := by
  cases h with
  | cons a t => cases t with
    | cons b t => cases t; exact ⟨_, _, rfl, a, b⟩
theorem len_body {P : Program} {w : World} {A : Around} {EE : Value → Shared → Prop} {s : Shared} {d : Addr} {es : Array DictEntry} {ep : Nat} {Q : Value → Shared → Prop} (hd : (d == sysModules) = false) (hm : s.heap.DictRaw d es ep) (hfit : (es.size : Int) < 2 ^ 63)
    (h : Q (.int es.size (s.toks + 1)) { s with toks := s.toks + 1 + 1 }) : wpAny (model P w) A (Builtin.«len» ⟨[.ref d], []⟩) (fun fin s' => ∃ r, fin = .done (.ret r) ∧ Q r s') EE s := by
  unfold Builtin.«len»
  refine wpAny_bind (m := oneArg "len" _) (wpAny_pure ?_)
  refine wpAny_bind (m := callSpecial? (.ref d) (Str.ofString "__len__")) (wpAny_callSpecial?_slot (name := Str.ofString "__len__") hm.typeIs PySem.F.slot_dict_len (call_len_raw hd hm ?_))
  show wpAny _ _ _ _ _ { s with toks := s.toks + 1 }
  refine wpAny_bind (wpAny_holding (wpAny_pure (wpAny_bind (wpAny_letGo ?_))))
  show wpAny _ _ (if ((es.size : Nat) : Int) < 0 then _ else _) _ _ _
  rw [if_neg (by omega)]
  show wpAny _ _ (if ((es.size : Nat) : Int) ≥ 2 ^ 63 then _ else _) _ _ _
  rw [if_neg (by omega)]
  exact wpAny_bind (wpAny_mkInt (wpAny_pure ⟨_, rfl, h⟩))
theorem LR.rawLen {pins : List (Addr × Obj)} {s : Shared} {ks us : List D} (I : Inv X pins σ H s) (hs : Sub F H) (h : LR (wd X C) F μ H (.dct ks us) v) : ∃ a es ep, v = .ref a ∧ (a == sysModules) = false ∧ s.heap.DictRaw a es ep ∧ es.size = ks.length ∧ ks.length ≤ sizeLine := by
  rcases LR.dctE h hs with ⟨a, kvs, rfl, hk, r⟩ | ⟨a, xs, rfl, hk, r⟩
  · obtain ⟨h1, h2, vs, kv, hm⟩ := Inv.rdK I hk
    obtain ⟨es, ep, hr, hz, _⟩ := hm.raw
    have e : kvs.length = vs.length := Paired.length kv
    exact ⟨a, es, ep, rfl, h1, hr, by rw [hz, ← e, r.len], by rw [r.len]; exact h2⟩
  · obtain ⟨h1, h2, hm, _⟩ := Inv.rdX I hs hk r
    obtain ⟨es, ep, hr, hz, _⟩ := hm.raw
    exact ⟨a, es, ep, rfl, h1, hr, by rw [hz, r.len], by rw [r.len]; exact h2⟩
theorem cr_len : CallR X (.builtin "len") (rB (wd X C) E kLen) := by
  have h1 : CallR X (.builtin "len") (rB (wd X C) E fun ds => match ds with | [.dct ks us] => kLen [.dct ks us] | _ => fail) := by
    intro pins s σ H xs us Q I rv ⟨F, μ, S, σ', ds, R, lr, p⟩
    dsimp only at p
    split at p
    · obtain ⟨v, rfl, h⟩ := lr.one
      obtain ⟨a, es, ep, rfl, e1, e2, e3, e4⟩ := h.rawLen I R.sub
      obtain ⟨u, rfl, ru⟩ := vals1 rv
      obtain rfl : u = Value.ref a := ru
      have hz : sizeLine = 16777216 := sizeLine_eq
      refine Calls.call_function_entry kind_len plain_len entry_len (args_len1 _) (len_body e1 e2 (by omega) ?_)
      exact ⟨.int es.size, H, I.tok _, ⟨_, rfl⟩, by rw [e3]; exact Post.retV (d := .int (_ : Int)) p R (.int _)⟩
    · exact p.elim
  refine callW ((call_len_seq.or call_len_str).or h1) fun xs H Q ⟨F, μ, S, σ, ds, R, lr, p⟩ => ?_
  unfold kLen at p
  split at p
  · obtain ⟨v, rfl, h⟩ := lr.one
    obtain ⟨a, vs, rfl, s1, r1⟩ := h.lst R.sub
    exact .inl (.inl ⟨a, vs, rfl, .inl (.inl s1), by rw [← r1.length]; exact Post.retV p R (.int _)⟩)
  · obtain ⟨v, rfl, h⟩ := lr.one
    obtain ⟨a, vs, rfl, s1, f1, r1⟩ := h.tup R.sub
    exact .inl (.inl ⟨a, vs, rfl, .inr s1, by rw [← r1.length]; exact Post.retV p R (.int _)⟩)
  · obtain ⟨v, rfl, h⟩ := lr.one
    obtain ⟨hl, p2⟩ := mapp p
    exact .inl (.inr ⟨_, by rw [h.str], hl, Post.retV p2 R (.int _)⟩)
  · exact .inr ⟨F, μ, S, σ, _, R, lr, p⟩
  · exact p.elim
theorem cr_abs : CallR X (.builtin "abs") (rB (wd X C) E kAbs) := callW call_abs fun xs H Q ⟨F, μ, S, σ, ds, R, lr, p⟩ => by
  unfold kAbs at p
  split at p
  · obtain ⟨v, rfl, h⟩ := lr.one
    exact ⟨_, by rw [h.int], Post.retV p R (.int _)⟩
  · exact p.elim
theorem cr_int : CallR X (.type "int") (rB (wd X C) E kInt) := callW call_int1 fun xs H Q ⟨F, μ, S, σ, ds, R, lr, p⟩ => by
  unfold kInt at p
  split at p
  · obtain ⟨v, rfl, h⟩ := lr.one
    exact .inl ⟨_, by rw [h.int], Post.retV p R (.int _)⟩
  · obtain ⟨v, rfl, h⟩ := lr.one
    exact .inr ⟨_, by rw [h.bl], Post.retV p R (.int _)⟩
  · exact p.elim
theorem cr_max' (hc : X.calm = true) : CallR X (.builtin "max") (rB (wd X C) E kMax) := callW ((call_max2 hc).or (L2.cr_max hc)) fun xs H Q ⟨F, μ, S, σ, ds, R, lr, p⟩ => by
  unfold kMax at p
  split at p
  · obtain ⟨u, v, rfl, h1, h2⟩ := lr.two
    exact .inl ⟨_, _, by rw [h1.int, h2.int], Post.retV p R (.int _)⟩
  · split at p
    · rename_i n ns e
      obtain ⟨v, rfl, h⟩ := lr.one
      obtain ⟨a, vs, rfl, s1, r1⟩ := h.lst R.sub
      have ev := intsOf_v r1 e
      subst ev
      refine .inr ⟨a, _, rfl, .inl s1, by simp, fun m hm hall => ?_⟩
      obtain ⟨k1, k2, k3⟩ := maxI_ge ns n
      have e2 : m = maxI n ns := Int.le_antisymm (by
        rcases List.mem_cons.mp hm with rfl | hm
        · exact k1
        · exact k2 m hm) (hall _ (by rcases k3 with k3 | k3 <;> simp [k3]))
      rw [e2]; exact Post.retV p R (.int _)
    · exact p.elim
  · exact p.elim
theorem cr_min' (hc : X.calm = true) : CallR X (.builtin "min") (rB (wd X C) E kMin) := callW ((call_min2 hc).or (L2.cr_min hc)) fun xs H Q ⟨F, μ, S, σ, ds, R, lr, p⟩ => by
  unfold kMin at p
  split at p
  · obtain ⟨u, v, rfl, h1, h2⟩ := lr.two
    exact .inl ⟨_, _, by rw [h1.int, h2.int], Post.retV p R (.int _)⟩
  · split at p
    · rename_i n ns e
      obtain ⟨v, rfl, h⟩ := lr.one
      obtain ⟨a, vs, rfl, s1, r1⟩ := h.lst R.sub
      have ev := intsOf_v r1 e
      subst ev
      refine .inr ⟨a, _, rfl, .inl s1, by simp, fun m hm hall => ?_⟩
      obtain ⟨k1, k2, k3⟩ := minI_le ns n
      have e2 : m = minI n ns := Int.le_antisymm (hall _ (by rcases k3 with k3 | k3 <;> simp [k3])) (by
        rcases List.mem_cons.mp hm with rfl | hm
        · exact k1
        · exact k2 m hm)
      rw [e2]; exact Post.retV p R (.int _)
    · exact p.elim
  · exact p.elim
theorem cr_sum' (hc : X.calm = true) : CallR X (.builtin "sum") (rB (wd X C) E kSum) := callW (L2.cr_sum hc) fun xs H Q ⟨F, μ, S, σ, ds, R, lr, p⟩ => by
  unfold kSum at p
  split at p
  · split at p
    · rename_i ns e
      obtain ⟨v, rfl, h⟩ := lr.one
      obtain ⟨a, vs, rfl, s1, r1⟩ := h.lst R.sub
      have ev := intsOf_v r1 e
      subst ev
      exact ⟨a, _, rfl, .inl s1, Post.retV p R (.int _)⟩
    · exact p.elim
  · exact p.elim
theorem cr_all' (hc : X.calm = true) : CallR X (.builtin "all") (rB (wd X C) E kAll) := callW (L2.cr_all hc) fun xs H Q ⟨F, μ, S, σ, ds, R, lr, p⟩ => by
  unfold kAll at p
  split at p
  · split at p
    · rename_i ns e
      obtain ⟨v, rfl, h⟩ := lr.one
      obtain ⟨a, vs, rfl, s1, r1⟩ := h.lst R.sub
      have ev := blsOf_v r1 e
      subst ev
      exact ⟨a, _, rfl, .inl s1, Post.retV p R (.bl _)⟩
    · exact p.elim
  · exact p.elim
theorem cr_any' (hc : X.calm = true) : CallR X (.builtin "any") (rB (wd X C) E kAny) := callW (L2.cr_any hc) fun xs H Q ⟨F, μ, S, σ, ds, R, lr, p⟩ => by
  unfold kAny at p
  split at p
  · split at p
    · rename_i ns e
      obtain ⟨v, rfl, h⟩ := lr.one
      obtain ⟨a, vs, rfl, s1, r1⟩ := h.lst R.sub
      have ev := blsOf_v r1 e
      subst ev
      exact ⟨a, _, rfl, .inl s1, Post.retV p R (.bl _)⟩
    · exact p.elim
  · exact p.elim
theorem cr_tup' : CallR X (.type "tuple") (rB (wd X C) E kTup) := callW (call_tuple_of.or call_tupleT) fun xs H Q ⟨F, μ, S, σ, ds, R, lr, p⟩ => by
  unfold kTup at p
  split at p
  · obtain ⟨v, rfl, h⟩ := lr.one
    obtain ⟨a, vs, rfl, s1, r1⟩ := h.lst R.sub
    exact .inl ⟨a, vs, rfl, .inl ⟨.inl s1, fun l hl => Post.newT p R r1 hl⟩⟩
  · obtain ⟨v, rfl, h⟩ := lr.one
    obtain ⟨a, vs, rfl, s1, f1, r1⟩ := h.tup R.sub
    exact .inr ⟨a, vs, rfl, s1, Post.retV p R (.tup f1 r1)⟩
  · exact p.elim
theorem cr_lst' : CallR X (.type "list") (rB (wd X C) E kLst) := callW call_list_of fun xs H Q ⟨F, μ, S, σ, ds, R, lr, p⟩ => by
  unfold kLst at p
  split at p
  · obtain ⟨v, rfl, h⟩ := lr.one
    obtain ⟨a, vs, rfl, s1, r1⟩ := h.lst R.sub
    exact ⟨a, vs, rfl, .inl (.inl s1), fun l hl => Post.newL p R r1 hl⟩
  · obtain ⟨v, rfl, h⟩ := lr.one
    obtain ⟨a, vs, rfl, s1, f1, r1⟩ := h.tup R.sub
    exact ⟨a, vs, rfl, .inr s1, fun l hl => Post.newL p R r1 hl⟩
  · exact p.elim
theorem kit_tab (K : PySem.W.Frag) {t c : String} (ht : t ∈ ["NoneType", "bool", "int", "str", "tuple", "list"]) (hcc : c ∈ ["int", "bool", "str", "tuple", "list", "dict"]) : PySem.W.kitOne K (.type t) (.type c) = some ((tyIn t).contains c) := by
  simp only [List.mem_cons, List.not_mem_nil, or_false] at ht hcc
  rcases ht with rfl | rfl | rfl | rfl | rfl | rfl <;> rcases hcc with rfl | rfl | rfl | rfl | rfl | rfl <;> kernel_rfl
theorem SqT.ty {K : PySem.W.Frag} {a : Addr} {ys : List V} (h : SqT K H a ys) : TyX K H (.ref a) (.type "tuple") := by
  rcases h with (h | ⟨o, h⟩) | ⟨o, its, n, h1, h2, _⟩
  · exact .base (.tup h)
  · exact .fTuple h
  · exact .kTuple h1 h2
theorem LR.ty {d : D} {t : String} (hs : Sub F H) (h : LR W F μ H d v) (e : tyN d = some t) : TyX W.K H v (.type t) ∧ t ∈ ["NoneType", "bool", "int", "str", "tuple", "list"] := by
  cases d with
  | non => cases e; rw [h.non]; exact ⟨.base .non, by simp⟩
  | bl b => cases e; rw [h.bl]; exact ⟨.base (.bl _), by simp⟩
  | int i => cases e; rw [h.int]; exact ⟨.base (.int _), by simp⟩
  | str x => cases e; rw [h.str]; exact ⟨.base (.str _), by simp⟩
  | tup xs =>
    cases e
    obtain ⟨a, vs, rfl, s1, _⟩ := h.tup hs
    exact ⟨SqT.ty s1, by simp⟩
  | lst xs =>
    cases e
    obtain ⟨a, vs, rfl, s1, _⟩ := h.lst hs
    rcases s1 with s1 | ⟨o, s1⟩
    · exact ⟨.base (.lst s1), by simp⟩
    · exact ⟨.base (.frz s1), by simp⟩
  | _ => cases e
theorem LR.isTy {n : String} (h : LR W F μ H (.ty n) v) : v = .ty n := by
  rcases h with h | ⟨a, _, l⟩
  · cases h; rfl
  · exact l.elim
theorem cr_isi : CallR X (.builtin "isinstance") (rB (wd X C) E kIsi) := callW call_isi fun xs H Q ⟨F, μ, S, σ, ds, R, lr, p⟩ => by
  unfold kIsi at p
  split at p
  · rename_i d c
    obtain ⟨u, v, rfl, h1, h2⟩ := lr.two
    rw [h2.isTy]
    cases e : tyN d with
    | none => rw [e] at p; exact p.elim
    | some t =>
      rw [e] at p
      dsimp only at p
      obtain ⟨hcc, p2⟩ := mapp p
      obtain ⟨k1, k2⟩ := h1.ty R.sub e
      exact ⟨u, .ty c, .type t, .type c, _, rfl, .ty c, k1, kit_tab _ k2 (by simpa using hcc), Post.retV p2 R (.bl _)⟩
  · exact p.elim
theorem cr_sortI : CallR X (.builtin "sorted") (rB (wd X C) E fun ds => match ds with
    | [.lst xs] => (match intsOf xs with
      | some ns => ret (.w (.lst ((sortI ns).map .int)))
      | none => fail)
    | _ => fail) := callW L2.cr_sortedI fun xs H Q ⟨F, μ, S, σ, ds, R, lr, p⟩ => by
  dsimp only at p
  split at p
  · split at p
    · rename_i ns e
      obtain ⟨v, rfl, h⟩ := lr.one
      obtain ⟨a, vs, rfl, s1, r1⟩ := h.lst R.sub
      have ev := intsOf_v r1 e
      subst ev
      refine ⟨a, _, rfl, .inl s1, fun ns' l hp hs hl => ?_⟩
      have := sorted_eq (hp.trans (sortI_perm ns).symm) hs (sortI_sorted ns)
      subst this
      refine Post.newL p R ?_ hl
      generalize sortI ns = zs
      induction zs with
      | nil => exact .nil
      | cons z zs ih => exact .cons (.int z) ih
    · exact p.elim
  · exact p.elim
end
end Vi
/-! text Vi21 -/
set_option Elab.async false
set_option linter.all false
set_option maxRecDepth 100000
set_option maxHeartbeats 1000000
/-! Vi, part 21: what changes a list, a dict; methods. -/
namespace Vi
open PySem PySem.Spec PyProof.Rows L2

/-- the thing behind o becomes f of it -/
def upM (o : O) (f : D → Option (D × D)) : M O := match o with
  | .at i => fun s => match s.σ[i]? with
    | some (.o d) => (match f d with
      | some (d', r) => .ok (.v r) { s with σ := s.σ.set i (.o d') }
      | none => .fail)
    | some (.s (.ref j)) => (match s.h[j]? with
      | some d => (match f d with
        | some (d', r) => .ok (.v r) { s with h := s.h.set j d' }
        | none => .fail)
      | none => .fail)
    | _ => .fail
  | .v (.ref j) => fun s => match s.h[j]? with
    | some d => (match f d with
      | some (d', r) => .ok (.v r) { s with h := s.h.set j d' }
      | none => .fail)
    | none => .fail
  | _ => fail
section
variable {W : Wd} {E : XK} {F : Hp} {μ : List Addr} {S : St} {σ : L2.St} {H H0 : Hp} {i j : Nat} {d d' : D} {a : Addr} {u : HO}
theorem get_set_self {α : Type} {l : List α} {i : Nat} {x y : α} (h : l[i]? = some x) : (l.set i y)[i]? = some y := by
  have := (List.getElem?_eq_some_iff.mp h).1
  simp [this]
theorem Step.upO (R : Rel W F μ S σ H) (h : S.σ[i]? = some (.o d)) (ha : σ[i]? = some (some (.ref a))) (l : Liv W F μ (upd H a u) a d') : Step W F μ S σ H F μ { S with σ := S.σ.set i (.o d') } σ (upd H a u) := by
  obtain ⟨b, hb, l0, hm, hf⟩ := R.ow i d h
  rw [ha] at hb; cases hb
  have own : ∀ b, Own { S with σ := S.σ.set i (.o d') } σ b → Own S σ b := fun b ⟨j, e, h1, h2⟩ => by
    rcases get_set h1 with ⟨rfl, _, _⟩ | ⟨_, h1⟩
    · exact ⟨j, d, h, h2⟩
    · exact ⟨j, e, h1, h2⟩
  refine ⟨Sub.refl F, fun _ _ z => z, ⟨by simpa using R.len, fun b v q => ?_, fun j e q => ?_, fun j e q => ?_, fun j k e e' b h1 h2 h3 h4 => ?_, R.hl, fun j e b h1 h2 => ?_, R.inj, R.tab.upd l0.ntb⟩, fun b v q _ _ no => ?_, fun b q => ?_, fun b q => .inl (own b q), fun b q => .inl q, fun b q => .inl q⟩
  · have hb : b ≠ a := fun z => by rw [z, hf] at q; cases q
    rw [upd_ne hb]; exact R.sub b v q
  · rcases get_set q with ⟨_, z, _⟩ | ⟨_, q⟩
    · cases z
    · exact R.sl j e q
  · rcases get_set q with ⟨rfl, z, _⟩ | ⟨hj, q⟩
    · cases z; exact ⟨a, ha, l, hm, hf⟩
    · obtain ⟨b, h1, h2, h3, h4⟩ := R.ow j e q
      have hb : b ≠ a := fun z => hj (R.apart j i e d b q h h1 (z ▸ ha))
      exact ⟨b, h1, h2.mono (Sub.refl F) (fun _ _ z => z) (upd_ne hb), h3, h4⟩
  · have f : ∀ (k : Nat) (e : D), (S.σ.set i (Sl.o d'))[k]? = some (Sl.o e) → ∃ e0 : D, S.σ[k]? = some (Sl.o e0) := fun k e q => by
      rcases get_set q with ⟨rfl, _, _⟩ | ⟨_, q⟩
      · exact ⟨d, h⟩
      · exact ⟨e, q⟩
    obtain ⟨x, hx⟩ := f j e h1
    obtain ⟨y, hy⟩ := f k e' h2
    exact R.apart j k x y b hx hy h3 h4
  · obtain ⟨h3, h4⟩ := R.hp j e b h1 h2
    have hb : b ≠ a := fun z => hm (z ▸ List.mem_of_getElem? h2)
    exact ⟨h3.mono (Sub.refl F) (fun _ _ z => z) (upd_ne hb), h4⟩
  · have hb : b ≠ a := fun z => no ⟨i, d, h, z ▸ ha⟩
    rw [upd_ne hb]; exact q
  · by_cases hb : b = a
    · rw [hb, upd_same] at q; cases q
    · rw [upd_ne hb] at q; exact q
theorem Step.upH (R : Rel W F μ S σ H) (h : S.h[j]? = some d) (ha : μ[j]? = some a) (l : Liv W F μ (upd H a u) a d') : Step W F μ S σ H F μ { S with h := S.h.set j d' } σ (upd H a u) := by
  obtain ⟨l0, hf⟩ := R.hp j d a h ha
  have am : a ∈ μ := List.mem_of_getElem? ha
  refine ⟨Sub.refl F, fun _ _ z => z, ⟨R.len, fun b v q => ?_, R.sl, fun k e q => ?_, R.apart, by simpa using R.hl, fun k e b h1 h2 => ?_, R.inj, R.tab.upd l0.ntb⟩, fun b v q _ n _ => ?_, fun b q => ?_, fun b q => .inl q, fun b q => .inl q, fun b q => .inl q⟩
  · have hb : b ≠ a := fun z => by rw [z, hf] at q; cases q
    rw [upd_ne hb]; exact R.sub b v q
  · obtain ⟨b, h1, h2, h3, h4⟩ := R.ow k e q
    have hb : b ≠ a := fun z => h3 (z ▸ am)
    exact ⟨b, h1, h2.mono (Sub.refl F) (fun _ _ z => z) (upd_ne hb), h3, h4⟩
  · rcases get_set h1 with ⟨rfl, z, _⟩ | ⟨hk, h1⟩
    · cases z
      rw [ha] at h2; cases h2
      exact ⟨l, hf⟩
    · obtain ⟨h3, h4⟩ := R.hp k e b h1 h2
      have hb : b ≠ a := fun z => by
        subst z
        have k1 := (List.getElem?_eq_some_iff.mp ha)
        have k2 := (List.getElem?_eq_some_iff.mp h2)
        obtain ⟨l1, e1⟩ := k1
        obtain ⟨l2, e2⟩ := k2
        exact hk ((List.getElem_inj R.inj).mp (e2.trans e1.symm))
      exact ⟨h3.mono (Sub.refl F) (fun _ _ z => z) (upd_ne hb), h4⟩
  · have hb : b ≠ a := fun z => n (z ▸ am)
    rw [upd_ne hb]; exact q
  · by_cases hb : b = a
    · rw [hb, upd_same] at q; cases q
    · rw [upd_ne hb] at q; exact q
theorem up_post {o : O} {v : V} {f : D → Option (D × D)} {Q : VK} (R : Rel W F μ S σ H) (r : OR W H0 F μ S σ H o v) (p : Post W E (OR W) (upM o f) F μ S σ H Q) :
    ∃ a d d' x, v = .ref a ∧ Liv W F μ H a d ∧ f d = some (d', x) ∧ ∀ u xv, Liv W F μ (upd H a u) a d' → DR W F μ x xv → Q xv (upd H a u) := by
  have heap : ∀ {j : Nat} {a : Addr}, μ[j]? = some a → Post W E (OR W) (fun s => match s.h[j]? with
    | some d => (match f d with
      | some (d', r) => .ok (.v r) { s with h := s.h.set j d' }
      | none => .fail)
    | none => .fail) F μ S σ H Q → ∃ d d' x, Liv W F μ H a d ∧ f d = some (d', x) ∧ ∀ u xv, Liv W F μ (upd H a u) a d' → DR W F μ x xv → Q xv (upd H a u) := fun {j a} ha p => by
    unfold Post at p
    dsimp only at p
    cases e1 : S.h[j]? with
    | none => rw [e1] at p; exact p.elim
    | some d =>
      rw [e1] at p
      dsimp only at p
      cases e2 : f d with
      | none => rw [e2] at p; exact p.elim
      | some y =>
        rw [e2] at p
        exact ⟨d, y.1, y.2, (R.hp j d a e1 ha).1, e2, fun u xv l dx => p F μ xv _ (Step.upH R e1 ha l) (fun k z => z) dx⟩
  cases o with
  | w d => exact p.elim
  | v d =>
    cases d with
    | ref j =>
      cases r with
      | ref ha =>
        obtain ⟨d, d', x, h1, h2, h3⟩ := heap ha p
        exact ⟨_, d, d', x, rfl, h1, h2, h3⟩
    | _ => exact p.elim
  | «at» i =>
    obtain ⟨hv, d, hd⟩ := r
    rcases hd with hd | hd
    · cases d with
      | ref j =>
        obtain ⟨v', h1, h2⟩ := R.sl i _ hd
        rw [hv] at h1; cases h1
        cases h2 with
        | ref ha =>
          have p' : Post W E (OR W) (fun s => match s.h[j]? with
            | some d => (match f d with
              | some (d', r) => .ok (.v r) { s with h := s.h.set j d' }
              | none => .fail)
            | none => .fail) F μ S σ H Q := by
            unfold Post upM at p
            simp only [hd] at p
            exact p
          obtain ⟨d, d', x, h1, h2, h3⟩ := heap ha p'
          exact ⟨_, d, d', x, rfl, h1, h2, h3⟩
      | _ => unfold Post upM at p; simp only [hd] at p
    · unfold Post upM at p
      simp only [hd] at p
      obtain ⟨a, h1, l, _⟩ := R.ow i d hd
      rw [hv] at h1; cases h1
      cases e2 : f d with
      | none => rw [e2] at p; exact p.elim
      | some y =>
        rw [e2] at p
        exact ⟨a, d, y.1, y.2, rfl, l, e2, fun u xv l' dx => p F μ xv _ (Step.upO R hd hv l') (Ne.setS ⟨_, .inr rfl⟩) dx⟩
end

/-! ### methods -/
inductive Kn where
  | l | d | s
def Kn.nm : Kn → String
  | .l => "list"
  | .d => "dict"
  | .s => "str"
def isK : Kn → D → Bool
  | .l, .lst _ => true
  | .d, .dct _ _ => true
  | .s, .str _ => true
  | _, _ => false
def mMe (kd : Kn) (k : O → List D → M O) (o : M O) (args : M (List D)) : M O := bind o fun r => bind (rdh r) fun d => if isK kd d then bind args (k r) else fail
def mMr (kd : Kn) (k : O → List D → M O) (o : M O) (args : M (List O)) : M O := bind o fun r => bind (rdh r) fun d => if isK kd d then bind args fun os => bind (rdhs os) (k r) else fail
def rM (W : Wd) (E : XK) (k : O → List D → M O) : V → List V → Hp → VK → Prop := fun x xs H Q => ∃ F μ S σ H0 o ds, Rel W F μ S σ H ∧ OR W H0 F μ S σ H o x ∧ DRs W F μ ds xs ∧ Post W E (OR W) (k o ds) F μ S σ H Q
def rMr (W : Wd) (E : XK) (k : O → List D → M O) : V → List V → Hp → VK → Prop := fun x xs H Q => ∃ F μ S σ H0 o ds, Rel W F μ S σ H ∧ OR W H0 F μ S σ H o x ∧ LRs W F μ H ds xs ∧ Post W E (OR W) (k o ds) F μ S σ H Q
section
variable {X : Cx} {C : Cc} {E : XK} {F : Hp} {μ : List Addr} {S : St} {σ : L2.St} {H H0 : Hp} {o e : Expr} {es : List Expr} {mo : M O} {ma : M (List D)} {mr : M (List O)} {kd : Kn} {k : O → List D → M O} {id : String} {name : Str} {apos cpos : Pos}
def tyK (X : Cx) (C : Cc) (kd : Kn) : V → Hp → Prop := fun x H => ∃ F μ d, Sub F H ∧ LR (wd X C) F μ H d x ∧ isK kd d = true
theorem tyOkK : TyOk X kd.nm (tyK X C kd) := by
  intro pins σ H s x v I rv ⟨F, μ, d, hs, h, hk⟩
  cases kd with
  | l =>
    cases d with
    | lst xs =>
      obtain ⟨a, vs, rfl, s1, r1⟩ := h.lst hs
      obtain rfl : v = Value.ref a := rv
      obtain ⟨its, r, pl, hz⟩ := I.list (.inl s1)
      obtain ⟨ob, m, e, c, dd, q⟩ := pl
      exact ⟨⟨ob, e, c⟩, fun b eb => by cases eb; exact ⟨ob, e, by first | exact m | exact dd⟩⟩
    | _ => cases hk
  | d =>
    cases d with
    | dct ks us =>
      obtain ⟨a, es, ep, rfl, e1, hm, _⟩ := h.rawLen I hs
      obtain rfl : v = Value.ref a := rv
      exact ⟨hm.typeIs, fun b eb => by cases eb; obtain ⟨o', h1', h2', _⟩ := hm; exact ⟨o', h1', h2'.2.1⟩⟩
    | _ => cases hk
  | s =>
    cases d with
    | str y =>
      rw [h.str] at rv
      obtain ⟨t, rfl⟩ := rv
      exact ⟨typeIs_str _ _ _, fun _ e => nomatch e⟩
    | _ => cases hk
theorem LR.of_or {v : V} {d : D} {S' : St} {ro : O} (R : Rel (wd X C) F μ S σ H) (r : OR (wd X C) H0 F μ S σ H ro v) (e : rdh ro S = .ok d S') : S' = S ∧ LR (wd X C) F μ H d v := by
  have e0 : rdh ro S = Vi.bind (rd ro) deref S := rfl
  rw [e0] at e
  unfold Vi.bind at e
  cases e1 : rd ro S with
  | fail => rw [e1] at e; cases e
  | exc c d S1 => rw [e1] at e; cases e
  | ok d1 S1 =>
    rw [e1] at e
    obtain ⟨rfl, q⟩ := OR.rd r R e1
    have q' : LR (wd X C) F μ H d1 v := q.elim .inl fun ⟨a, h1, h2, _⟩ => .inr ⟨a, h1, h2⟩
    cases d1 with
    | ref j =>
      unfold deref at e
      dsimp only at e
      cases e2 : S1.h[j]? with
      | none => rw [e2] at e; cases e
      | some d2 =>
        rw [e2] at e; cases e
        refine ⟨rfl, ?_⟩
        rcases q' with q' | ⟨a, _, l⟩
        · cases q' with
          | ref hj => exact .inr ⟨_, rfl, (R.hp j _ _ e2 hj).1⟩
        · exact l.elim
    | _ => cases e; exact ⟨rfl, q'⟩
/-- the receiver's kind, known ahead of the arguments -/
theorem me_split {α β : Type} {Rα : RT α β} [Bk Rα] {ro : O} {v : V} {m : M α} {Q : β → Hp → Prop} (R : Rel (wd X C) F μ S σ H) (r : OR (wd X C) H0 F μ S σ H ro v) (p : Post (wd X C) E Rα (Vi.bind (rdh ro) fun d => if isK kd d then m else fail) F μ S σ H Q) :
    tyK X C kd v H ∧ Post (wd X C) E Rα m F μ S σ H Q := by
  obtain ⟨d, h1, p2⟩ := Post.rdh p R r
  obtain ⟨hk, p3⟩ := mapp p2
  exact ⟨⟨F, μ, d, R.sub, h1, hk⟩, p3⟩
theorem se_me (pa : PlainAttrs kd.nm) (slot : Slot kd.nm name id) (hty : typeOf (.builtin id) = pure (.type "method_descriptor")) (hm : MtR X id (rM (wd X C) E k)) (ho : PE X o (tE (wd X C) E mo)) (ha : PA X (e :: es) (tDs (wd X C) E ma))
    (hbase : attributeBase o name X.env (eval o X.env) = eval o X.env)
    (hfew : ((backTo cpos (starEach (e :: es) X.env)).all (fun x => !x.1) && (backToKw cpos (keywordEach [] X.env)).all (fun x => x.1.isSome) && decide ((e :: es).length + ([] : List Keyword).length + (if ([] : List Keyword).isEmpty then 0 else 1) < 30)) = true)
    (hline : (apos.endLine == cpos.line) = true) (hs : starEach (e :: es) X.env = (false, eval e X.env) :: starEach es X.env) (hplain : (backTo cpos (starEach es X.env)).any (·.1) = false) :
    PE X (.Call (.Attribute o name apos) (e :: es) [] cpos) (tE (wd X C) E (mMe kd k mo ma)) :=
  peW (pe_mG (tyOkK (C := C)) pa slot hty hm ho ha hbase hfew hline hs hplain) fun σ H Q ⟨F, μ, S, R, p⟩ => ⟨F, μ, S, R, (Post.bind p).mono fun v H1 ⟨ro, F1, μ1, S1, r1, t1, n1, p1⟩ => by
    obtain ⟨h1, p2⟩ := me_split t1.rel r1 p1
    exact ⟨h1, F1, μ1, S1, t1.rel, (Post.bind p2).mono fun vs H2 ⟨ds, F2, μ2, S2, r2, t2, n2, p3⟩ => ⟨F2, μ2, S2, σ, _, ro, ds, t2.rel, r1.step t2 n2, r2, p3⟩⟩⟩
theorem se_me0 (pa : PlainAttrs kd.nm) (slot : Slot kd.nm name id) (hty : typeOf (.builtin id) = pure (.type "method_descriptor")) (hm : MtR X id (rM (wd X C) E k)) (ho : PE X o (tE (wd X C) E mo))
    (hbase : attributeBase o name X.env (eval o X.env) = eval o X.env) (hline : (apos.endLine == cpos.line) = true) : PE X (.Call (.Attribute o name apos) [] [] cpos) (tE (wd X C) E (mMe kd k mo mNil)) :=
  peW (pe_mG0 (tyOkK (C := C)) pa slot hty hm ho hbase hline) fun σ H Q ⟨F, μ, S, R, p⟩ => ⟨F, μ, S, R, (Post.bind p).mono fun v H1 ⟨ro, F1, μ1, S1, r1, t1, n1, p1⟩ => by
    obtain ⟨h1, p2⟩ := me_split t1.rel r1 p1
    exact ⟨h1, F1, μ1, S1, σ, _, ro, [], t1.rel, r1, .nil, p2⟩⟩
theorem se_mr (pa : PlainAttrs kd.nm) (slot : Slot kd.nm name id) (hty : typeOf (.builtin id) = pure (.type "method_descriptor")) (hm : MtR X id (rMr (wd X C) E k)) (ho : PE X o (tE (wd X C) E mo)) (ha : PA X (e :: es) (tA (wd X C) E mr))
    (hbase : attributeBase o name X.env (eval o X.env) = eval o X.env)
    (hfew : ((backTo cpos (starEach (e :: es) X.env)).all (fun x => !x.1) && (backToKw cpos (keywordEach [] X.env)).all (fun x => x.1.isSome) && decide ((e :: es).length + ([] : List Keyword).length + (if ([] : List Keyword).isEmpty then 0 else 1) < 30)) = true)
    (hline : (apos.endLine == cpos.line) = true) (hs : starEach (e :: es) X.env = (false, eval e X.env) :: starEach es X.env) (hplain : (backTo cpos (starEach es X.env)).any (·.1) = false) :
    PE X (.Call (.Attribute o name apos) (e :: es) [] cpos) (tE (wd X C) E (mMr kd k mo mr)) :=
  peW (pe_mG (tyOkK (C := C)) pa slot hty hm ho ha hbase hfew hline hs hplain) fun σ H Q ⟨F, μ, S, R, p⟩ => ⟨F, μ, S, R, (Post.bind p).mono fun v H1 ⟨ro, F1, μ1, S1, r1, t1, n1, p1⟩ => by
    obtain ⟨h1, p2⟩ := me_split t1.rel r1 p1
    refine ⟨h1, F1, μ1, S1, t1.rel, (Post.bind p2).mono fun vs H2 ⟨os, F2, μ2, S2, r2, t2, n2, p3⟩ => ?_⟩
    obtain ⟨ds, h2, p4⟩ := rdhs_post (k := k ro) t2.rel r2 p3
    exact ⟨F2, μ2, S2, σ, _, ro, ds, t2.rel, r1.step t2 n2, h2, p4⟩⟩
end
end Vi
/-! text Vi22 -/
set_option Elab.async false
set_option linter.all false
set_option maxRecDepth 100000
set_option maxHeartbeats 1000000
/-! Vi, part 22: append, extend, pop, get, stores at an index. -/
namespace Vi
open PySem PySem.Spec PyProof.Rows L2

def fApp (y : D) : D → Option (D × D)
  | .lst xs => if xs.length < line then some (.lst (xs ++ [y]), .non) else none
  | _ => none
def fExt (ys : List D) : D → Option (D × D)
  | .lst xs => if xs.length + ys.length ≤ line then some (.lst (xs ++ ys), .non) else none
  | _ => none
def fPop : D → Option (D × D)
  | .lst xs => (match xs[xs.length - 1]? with
    | some y => some (.lst xs.dropLast, y)
    | none => none)
  | _ => none
def kApp (o : O) : List D → M O
  | [y] => upM o (fApp y)
  | _ => fail
def kExt (o : O) : List D → M O
  | [.lst ys] => upM o (fExt ys)
  | _ => fail
def kPop (o : O) : List D → M O
  | [] => upM o fPop
  | _ => fail
def fSet (k y : D) : D → Option (D × D)
  | .lst xs => (match k with
    | .int i => (match ixN xs.length i with
      | some j => some (.lst (xs.set j y), .non)
      | none => none)
    | _ => none)
  | .dct ks us => if keyOk ks k && decide (ks.length < line) then some (.dct (Vi.put ks us k y).1 (Vi.put ks us k y).2, .non) else none
  | _ => none
section
variable {X : Cx} {C : Cc} {E : XK} {F : Hp} {μ : List Addr} {S : St} {σ : L2.St} {H H0 : Hp}
theorem mr_append : MtR X "list.append" (rM (wd X C) E kApp) := fun pins s σ H x xs v us Q I rx rv ⟨F, μ, S, σ', H0, o, ds, R, r, rd, p⟩ => by
  unfold kApp at p
  split at p
  · obtain ⟨a, d, d', z, rfl, l, e, q⟩ := up_post R r p
    cases rd with
    | cons rd t =>
      cases t
      unfold fApp at e
      split at e
      · rename_i xs
        split at e
        · rename_i hz
          cases e
          obtain ⟨vs, h1, h2⟩ := l
          exact mt_append pins s σ H _ _ v us Q I rx rv ⟨a, vs, _, rfl, rfl, h1, by rw [← h2.length]; exact hz, q _ _ ⟨_, upd_same, h2.append (.cons rd .nil)⟩ .non⟩
        · cases e
      · cases e
  · exact p.elim
theorem mt_extendL : MtM X "list.extend" (fun x vs H Q => ∃ l b xs zs, x = .ref l ∧ vs = [.ref b] ∧ H l = some (.lst xs) ∧ Rd H b (.lst zs) ∧ xs.length + zs.length ≤ sizeLine ∧ Q .non (upd H l (.lst (xs ++ zs)))) := by
  intro pins s σ H x vs v us Q I rx rv h
  obtain ⟨l, b, xs, zs, rfl, rfl, hH, hB, hz, q⟩ := h
  cases rx
  obtain ⟨u, rfl, ru⟩ := rv.one
  cases ru
  obtain ⟨z, its, n, r, hl, e⟩ := I.lstM hH
  obtain ⟨z2, its2, n2, r2, e2⟩ := hB.ok I.hok
  have hl2 := r2.length
  have fits : its.toArray.size + its2.toArray.size ≤ sizeLine := by rw [List.size_toArray, List.size_toArray]; omega
  have notlong : ¬ (!its.toArray.isEmpty && Builtin.List.listTooLong (its.toArray.size + its2.toArray.size)) = true := by
    rw [notLongL fits, Bool.and_false]; exact Bool.false_ne_true
  refine call_meets PySem.F.slot_list_extend ⟨_, e, rfl⟩ PySem.F.entry_list_extend (PySem.F.args_list_extend_2 _ _) (AutoSeq1.list_extend_list_list_0 l its.toArray n b its2.toArray n2 notlong (by rw [List.size_toArray]; omega) (by omega)) ⟨e, e2, ?_⟩
  exact ⟨.non, _, I.lset (its' := its ++ its2) hH e (by simp) (r.append r2) (by rw [List.length_append]; omega), rfl, q⟩
theorem mr_extend : MtR X "list.extend" (rMr (wd X C) E kExt) := fun pins s σ H x xs v us Q I rx rv ⟨F, μ, S, σ', H0, o, ds, R, r, lr, p⟩ => by
  unfold kExt at p
  split at p
  · obtain ⟨a, d, d', z, rfl, l, e, q⟩ := up_post R r p
    obtain ⟨w, rfl, h⟩ := lr.one
    obtain ⟨b, ws, rfl, s1, r1⟩ := h.lst R.sub
    unfold fExt at e
    split at e
    · split at e
      · rename_i hz
        cases e
        obtain ⟨vs, h1, h2⟩ := l
        exact mt_extendL pins s σ H _ _ v us Q I rx rv ⟨a, b, vs, ws, rfl, rfl, h1, s1, by rw [← h2.length, ← r1.length]; exact hz, q _ _ ⟨_, upd_same, h2.append r1⟩ .non⟩
      · cases e
    · cases e
  · exact p.elim
theorem DRs.dropLast {W : Wd} {F : Hp} {μ : List Addr} {xs : List D} {vs : List V} (r : DRs W F μ xs vs) : DRs W F μ xs.dropLast vs.dropLast := by
  rw [List.dropLast_eq_take, List.dropLast_eq_take, r.length]
  exact r.take _
theorem mr_pop : MtR X "list.pop" (rM (wd X C) E kPop) := fun pins s σ H x xs v us Q I rx rv ⟨F, μ, S, σ', H0, o, ds, R, r, rd, p⟩ => by
  unfold kPop at p
  split at p
  · obtain ⟨a, d, d', z, rfl, l, e, q⟩ := up_post R r p
    cases rd
    unfold fPop at e
    split at e
    · split at e
      · rename_i y hy
        cases e
        obtain ⟨vs, h1, h2⟩ := l
        obtain ⟨yv, k1, k2⟩ := h2.get hy
        exact mt_pop pins s σ H _ _ v us Q I rx rv ⟨a, vs, yv, rfl, rfl, h1, by rw [← h2.length]; exact k1, q _ _ ⟨_, upd_same, h2.dropLast⟩ k2⟩
      · cases e
    · cases e
  · exact p.elim
/-! ### stores -/
theorem DRk.put {k d : D} {key : Key} {v : V} (hk : k.key = some key) (r : DR (wd X C) F μ d v) : ∀ {ks us : List D} {kvs : List (Key × V)}, DRk (wd X C) F μ ks us kvs → (kvs.map (·.1)).Nodup → DRk (wd X C) F μ (Vi.put ks us k d).1 (Vi.put ks us k d).2 (putK kvs key v)
  | _, _, _, .nil, _ => .cons hk r .nil
  | _, _, _, .cons (k := k') (d := d') (ks := ks) (ds := ds) (key := key') (v := v') (kvs := kvs) e h2 t, nd => by
    have q := same_key hk e
    have nd' := (List.nodup_cons.mp nd)
    by_cases z : key = key'
    · subst z
      rw [decide_eq_true rfl] at q
      have no : ∀ kv ∈ kvs, kv.1 ≠ key := fun kv hm z => nd'.1 (by rw [← z]; exact List.mem_map_of_mem (f := (·.1)) hm)
      have e1 : putK ((key, v') :: kvs) key v = (key, v) :: kvs := by
        unfold putK
        simp only [List.any_cons, decide_true, Bool.true_or, if_true, List.map_cons]
        congr 1
        conv => rhs; rw [← List.map_id kvs]
        exact List.map_congr_left fun kv hm => by rw [if_neg (no kv hm)]; rfl
      simp only [Vi.put, q, if_true]
      rw [e1]
      exact .cons e r t
    · rw [decide_eq_false z] at q
      have ih := DRk.put hk r t nd'.2
      have e1 : putK ((key', v') :: kvs) key v = (key', v') :: putK kvs key v := by
        have w : ¬ key' = key := fun w => z w.symm
        unfold putK
        simp only [List.any_cons, decide_eq_false w, Bool.false_or, List.map_cons, if_neg w]
        split <;> rfl
      simp only [Vi.put, q, Bool.false_eq_true, if_false]
      rw [e1]
      exact .cons e h2 ih
theorem DRn.put {k d : D} {key : NestedKey} {b : Addr} {v : V} {u : Value} (hk : k.nk = some key) (hb : DR (wd X C) F μ k (.ref b)) (rv : RelV v u) (r : DR (wd X C) F μ d v) : ∀ {ks us : List D} {xs : NX}, DRn (wd X C) F μ ks us xs → (xs.map (·.1)).Nodup →
    DRn (wd X C) F μ (Vi.put ks us k d).1 (Vi.put ks us k d).2 (storedH xs key b u)
  | _, _, _, .nil, _ => .cons hk hb rv r .nil
  | _, _, _, .cons (k := k') (d := d') (ks := ks) (ds := ds) (key := key') (b := b') (v := v') (u := u') (xs := xs) e h1 rv' h2 t, nd => by
    have q := same_nk hk e
    have nd' := (List.nodup_cons.mp nd)
    by_cases z : key = key'
    · subst z
      rw [decide_eq_true rfl] at q
      have no : ∀ x ∈ xs, x.1 ≠ key := fun kv hm z => nd'.1 (by rw [← z]; exact List.mem_map_of_mem (f := (·.1)) hm)
      have e1 : storedH ((key, b', u') :: xs) key b u = (key, b', u) :: xs := by
        rw [storedH_old (p := (b', u')) (by simp [atKey])]
        simp only [List.map_cons, putAt, if_true]
        congr 1
        conv => rhs; rw [← List.map_id xs]
        exact List.map_congr_left fun kv hm => by unfold putAt; rw [if_neg (no kv hm)]; rfl
      simp only [Vi.put, q, if_true]
      rw [e1]
      exact .cons e h1 rv r t
    · rw [decide_eq_false z] at q
      have ih := DRn.put hk hb rv r t nd'.2
      have e1 : storedH ((key', b', u') :: xs) key b u = (key', b', u') :: storedH xs key b u := by
        have w : ¬ key' = key := fun w => z w.symm
        have e2 : atKey ((key', b', u') :: xs) key = atKey xs key := by simp [atKey, List.find?_cons, w]
        unfold storedH
        rw [e2]
        split
        · simp only [List.map_cons]; unfold putAt; simp only [if_neg w]
        · rfl
      simp only [Vi.put, q, Bool.false_eq_true, if_false]
      rw [e1]
      exact .cons e h1 rv' h2 ih
theorem nd_new {P : Program} {w : World} {H' : Hp} {h' : Heap} {a : Addr} {xs : NX} (hz : xs.length ≤ sizeLine) (hd : (a == sysModules) = false) (hx : ∀ x ∈ xs, x.1.depth ≤ 8) (dd : h'.DictOfH (nestedKind P w) a xs) : ObjOk P w H' h' a (ND P w a xs) := by
  obtain ⟨o, es, ep, e1, e2, e3, e4, _, e5⟩ := dd
  exact ⟨⟨hd, hz, hx, o, es, ep, e1, e2, e3, e4, e5⟩, ⟨o, e1⟩, fun h1 h2 ⟨k1, k2, k3, o', es', ep', f1, f2, f3, f4, f5⟩ st => ⟨k1, k2, k3, o', es', ep', st _ f1, f2, f3, f4, f5⟩⟩
theorem Liv.dctE {ks us : List D} {a : Addr} (l : Liv (wd X C) F μ H a (.dct ks us)) : LR (wd X C) F μ H (.dct ks us) (.ref a) := .inr ⟨a, rfl, l⟩
theorem isTup_all {ks : List D} (h : ks.all isTup = true) : ks.all isPlain = true → ks = [] := fun h' => nil_of_both h' h
theorem LR.kdW {ks us : List D} {a : Addr} (R : Sub F H) (l : Liv (wd X C) F μ H a (.dct ks us)) (hp : ks.all isPlain = true) : ∃ kvs, KD X H a kvs ∧ DRk (wd X C) F μ ks us kvs := by
  obtain ⟨b, kvs, e, h1, h2⟩ := LR.dctK (X := X) (C := C) l.dctE R hp
  cases e
  exact ⟨kvs, h1, h2⟩
theorem LR.ndW {ks us : List D} {a : Addr} (R : Sub F H) (l : Liv (wd X C) F μ H a (.dct ks us)) (hp : ks.all isTup = true) : ∃ xs, NDx X H a xs ∧ DRn (wd X C) F μ ks us xs := by
  obtain ⟨b, kvs, e, h1, h2⟩ := LR.dctN (X := X) (C := C) l.dctE R hp
  cases e
  exact ⟨kvs, h1, h2⟩
theorem kv_keys : ∀ {kvs : List (Key × V)} {vs : List (Key × Value)}, KV kvs vs → kvs.map (·.1) = vs.map (·.1)
  | _, _, .nil => rfl
  | _, _, .cons a t => by simp only [List.map_cons]; rw [a.1, kv_keys t]
theorem KD.nd {a : Addr} {kvs : List (Key × V)} {s : Shared} {pins : List (Addr × Obj)} (I : Inv X pins σ H s) (h : KD X H a kvs) : (kvs.map (·.1)).Nodup := by
  obtain ⟨_, _, vs, kv, o, es, ep, _, _, _, _, hp, hn⟩ := Inv.rdK I h
  have : kvs.map (·.1) = vs.map (·.1) := kv_keys kv
  rw [this]; exact hn
def rSet (W : Wd) (E : XK) : TSet := fun o i v H Q => ∃ F μ S σ H0 ro k d, Rel W F μ S σ H ∧ OR W H0 F μ S σ H ro o ∧ DR W F μ k i ∧ DR W F μ d v ∧ Post W E (OR W) (upM ro (fSet k d)) F μ S σ H fun _ H' => Q H'
theorem pset_all (hu : X.A.units + 66 < cLine) : PSet X (rSet (wd X C) E) := fun pins s σ H o i v ov iv u Q I ro ri rv ⟨F, μ, S, σ', H0, r0, k, d, R, r, dk, dd, p⟩ => by
  obtain ⟨a, d0, d', z, rfl, l, e, q⟩ := up_post R r p
  cases (show ov = Value.ref a from ro)
  have hmut : L2.Mut (H a) := l.mut
  unfold fSet at e
  split at e
  · split at e
    · split at e
      · rename_i j hj
        cases e
        obtain ⟨vs, h1, h2⟩ := l
        cases dk
        exact set_list pins s σ H (.ref a) _ _ (.ref a) iv u Q I rfl ri rv ⟨a, vs, _, _, rfl, rfl, h1, by rw [← h2.length]; exact hj, q _ .non ⟨_, upd_same, h2.set _ dd⟩ .non⟩
      · cases e
    · cases e
  · rename_i ks us
    split at e
    · rename_i hc
      cases e
      rw [Bool.and_eq_true, decide_eq_true_eq] at hc
      rcases keyOk_case hc.1 with ⟨key, hk, hp⟩ | ⟨ys, key, rfl, hk, hdp, hp⟩
      · obtain ⟨kvs, hkd, hr⟩ := LR.kdW R.sub l hp
        obtain ⟨h1, h2, vs, kv, hm⟩ := Inv.rdK I hkd
        have hl : kvs.length = vs.length := Paired.length kv
        have hz : (putK kvs key v).length ≤ sizeLine := by
          have := length_putK kvs key v
          have := hr.len
          have hc2 := hc.2
          rw [line_eq] at hc2
          omega
        have ei : i = kV key := by cases k <;> cases hk <;> cases dk <;> rfl
        subst ei
        refine wpAny_setItem_pairs (hsz := by rw [← hl]; exact h2) (kV_is ri) hm fun h' dd' hs => ?_
        have he : ∃ q, h'.get? a = some q := let ⟨q, _, _, hq, _⟩ := dd'; ⟨q, hq⟩
        exact ⟨_, d_write I hmut hs he (dk_new hz h1 (kv.put key rv) dd'), q _ .non (.inl ⟨_, upd_same, DRk.put hk dd hr (KD.nd I hkd)⟩) .non⟩
      · obtain ⟨xs, hkd, hr⟩ := LR.ndW R.sub l hp
        obtain ⟨h1, h2, hm, h4⟩ := Inv.rdX I R.sub hkd hr
        have nd : (xs.map (·.1)).Nodup := by obtain ⟨_, _, _, _, _, _, _, _, n⟩ := hm; exact n
        have hb : ∃ b, i = .ref b := by cases dk; exact ⟨_, rfl⟩
        obtain ⟨b, rfl⟩ := hb
        · have dk' := dk
          cases (show iv = Value.ref b from ri)
          have room : (nestedKind X.prog X.w).room X.A.in1 := by show X.A.units + 1 + 8 < cLine; omega
          refine wpAny_setItem_heap (hsz := h2) room ⟨DR.isKey I R.sub dk' rfl hk, hdp⟩ hm fun h' dd' hs => ?_
          have he : ∃ q, h'.get? a = some q := let ⟨q, _, _, hq, _⟩ := dd'; ⟨q, hq⟩
          have hr' := DRn.put (X := X) hk dk' rv dd hr nd
          have hz : (storedH xs key b u).length ≤ sizeLine := by
            have k1 := hr.len
            have : (storedH xs key b u).length ≤ xs.length + 1 := by
              unfold storedH
              split
              · simp
              · simp
            have hc2 := hc.2
            rw [line_eq] at hc2
            omega
          have hx : ∀ x ∈ storedH xs key b u, x.1.depth ≤ 8 := fun x hx => by
            unfold storedH at hx
            split at hx
            · obtain ⟨y, hy, rfl⟩ := List.mem_map.mp hx
              unfold putAt
              split <;> exact h4 y hy
            · rcases List.mem_append.mp hx with hx | hx
              · exact h4 x hx
              · obtain rfl := List.mem_singleton.mp hx; exact hdp
          exact ⟨_, d_write I hmut hs he (nd_new hz h1 hx dd'), q _ .non (.inr ⟨_, upd_same, hr'⟩) .non⟩
    · cases e
  · cases e
end
end Vi
/-! text Vi23 -/
set_option Elab.async false
set_option linter.all false
set_option maxRecDepth 100000
set_option maxHeartbeats 1000000
/-! Vi, part 23: name = [..] on one line, o[i] = v, d.get. -/
namespace Vi
open PySem PySem.Spec PyProof.Rows L2

def mSetIx (mv mo mi : M O) : MS := mThen (bind mv esc) fun d => mThen mo fun r => mThen (bind mi esc) fun k => mThen (upM r (fSet k d)) fun _ => mSkip
section
variable {X : Cx} {C : Cc} {E : XK} {e o i : Expr} {mv mo mi : M O} {pos p1 : Pos}
theorem pe_escR (h : PE X e (tE (wd X C) E mv)) : PE X e (tD (wd X C) E (bind mv esc)) := pe_esc h
theorem ss_setix (hu : X.A.units + 66 < cLine) (he : PE X e (tE (wd X C) E mv)) (ho : PE X o (tE (wd X C) E mo)) (hi : PE X i (tE (wd X C) E mi)) (hs : swapsWithSole [.Subscript o i p1] e pos.line X.env = pure false) (hw : swappedStores [.Subscript o i p1] e X.env = pure none)
    (ha : ∀ v, assign (.Subscript o i p1) X.env v = (do
      let ov ← holding [v] (eval o X.env)
      let iv ← holding [v, ov] (eval i X.env)
      standAt p1
      holding [v, ov, iv] (setItem ov iv v)
      release [v, ov, iv] [])) :
    PS X (.Assign [.Subscript o i p1] e pos) (tS (wd X C) E (mSetIx mv mo mi)) :=
  psW' (ps_asg (pe_esc he) (pg_sub ho (pe_esc hi) (pset_all (C := C) (E := E) hu) ha) hs hw rfl) fun D σ H ⟨F, μ, S, R, p⟩ => ⟨F, μ, S, R, (PostS.bind p).mono fun v H1 ⟨d, F1, μ1, S1, e1, r1, t1, n1, q1, p1⟩ =>
    ⟨F1, μ1, S1, t1.rel, (PostS.bind p1).mono fun ov H2 ⟨ro, F2, μ2, S2, e2, r2, t2, n2, q2, p2⟩ => ⟨F2, μ2, S2, t2.rel, (PostS.bind p2).mono fun iv H3 ⟨k, F3, μ3, S3, e3, r3, t3, n3, q3, p3⟩ =>
      ⟨F3, μ3, S3, σ, _, ro, k, d, t3.rel, r2.step t3 n3, r3, DR.mono (t2.sub.trans t3.sub) (fun j a z => t3.pre j a (t2.pre j a z)) r1, (PostS.bind p3).mono fun v4 H4 ⟨_, F4, μ4, S4, e4, r4, t4, n4, q4, p4⟩ => p4.skip t4.rel⟩⟩⟩⟩
theorem lc_new {vs : List Nat} {mi : M (List D)} {g : D → M Unit} {tt : M Bool} {te : M D} {S S' : St} {o : O} (h : mLc vs mi g tt te S = .ok o S') : ∃ ds, o = .w (.lst ds) := by
  unfold mLc at h
  obtain ⟨items, S1, h1, h2⟩ := bind_okE h
  split at h2
  · cases h2; exact ⟨_, rfl⟩
  · cases h2
theorem ss_setLc {j : Nat} {y : Str} {py : Pos} {elt tg iter : Expr} {ifs : List Expr} {scope : Scope} {own : List (Str × Nat)} {spos : Pos} {ws : List Nat} {mi : M (List D)} {g : D → M Unit} {tt : M Bool} {te : M O}
    (hc : X.calm = true) (hN : X.N.Nodup) (hy : X.N[j]? = some y) (hyl : X.env.scope.names.lookup y = some .local) (hsw : swapsWith (.ListComp elt [⟨tg, iter, ifs, 0⟩] scope pos) (some (.Name y py)) spos.line X.env = pure true)
    (hi : PI X tg iter (tI (wd X C) E mi)) (ok : BlkOk X.N X.env.scope scope own) (hw : ∀ i ∈ ws, i ∈ own.map (·.2))
    (hg : ∀ (s : Shared) (H : Hp) (A : Addr) (cl : List (Str × Addr)) (fp : List Addr), PG (X.blk s H scope (compEnvC scope cl A X.env) fp) tg (tGt (wd X C) ws g))
    (ht : ∀ (s : Shared) (H : Hp) (A : Addr) (cl : List (Str × Addr)) (fp : List Addr), PTs (X.blk s H scope (compEnvC scope cl A X.env) fp) ifs (tT (wd X C) XF tt))
    (he : ∀ (s : Shared) (H : Hp) (A : Addr) (cl : List (Str × Addr)) (fp : List Addr), PE (X.blk s H scope (compEnvC scope cl A X.env) fp) elt (tE (wd X C) XF te)) (hs : ∀ x, foldedSetIterable iter X.env x = pure x) :
    PS X (.Assign [.Name y py] (.ListComp elt [⟨tg, iter, ifs, 0⟩] scope pos) spos) (tS (wd X C) E (mSet j (mLc (own.map (·.2)) mi g tt (bind te esc)))) :=
  psW' (ps_setLc hc hN hy hyl hsw hi ok hg ht (fun s H A cl fp => pe_esc (he s H A cl fp)) hs) fun D σ H ⟨F, μ, S, R, p⟩ => tLc_of hw ⟨F, μ, S, R, (by
    unfold PostS mSet mThen at p
    unfold Post
    cases e1 : mLc (own.map (·.2)) mi g tt (Vi.bind te esc) S with
    | fail => rw [bind_fail e1] at p; exact p
    | exc c d S1 => rw [bind_exc e1] at p; exact fun F' μ' H' dx v t => p F' μ' σ H' dx v t
    | ok ro S1 =>
      rw [bind_ok e1] at p
      obtain ⟨ds, rfl⟩ := lc_new e1
      intro F1 μ1 v H1 t n r
      exact p F1 μ1 _ H1 (Step.setW t r))⟩
end
/-! ### d.get -/
def kGet (o : O) : List D → M O
  | [k] => bind (rdh o) fun d => match d with
    | .dct ks us => if keyOk ks k then ret (.v ((Vi.get ks us k).getD .non)) else fail
    | _ => fail
  | [k, x] => bind (rdh o) fun d => match d with
    | .dct ks us => if keyOk ks k then ret (.v ((Vi.get ks us k).getD x)) else fail
    | _ => fail
  | _ => fail
section
variable {X : Cx} {C : Cc} {E : XK} {F : Hp} {μ : List Addr} {S : St} {σ : L2.St} {H H0 : Hp}
theorem mr_get (hu : X.A.units + 66 < cLine) : MtR X "dict.get" (rM (wd X C) E kGet) := fun pins s σ H x xs v us Q I rx rv ⟨F, μ, S, σ', H0, o, ds, R, r, rd, p⟩ => by
  have room : (nestedKind X.prog X.w).room X.A.in1 := by show X.A.units + 1 + 8 < cLine; omega
  have look : ∀ {ks us : List D} {k y : D} {kx : V} {kv : Value}, LR (wd X C) F μ H (.dct ks us) x → keyOk ks k = true → DR (wd X C) F μ k kx → RelV kx kv → 
      (∃ a, v = .ref a ∧ (a == sysModules) = false ∧ ((∃ key vs, (mixKind X.prog X.w).is key kv = true ∧ s.heap.DictOf (mixKind X.prog X.w) a vs ∧ ((Vi.get ks us k = none ∧ valueAt vs key = none) ∨ ∃ d w u, Vi.get ks us k = some d ∧ valueAt vs key = some u ∧ RelV w u ∧ DR (wd X C) F μ d w)) ∨
        ∃ b key zs, kv = .ref b ∧ (nestedKind X.prog X.w).is s.heap key b ∧ s.heap.DictOfH (nestedKind X.prog X.w) a zs ∧ ((Vi.get ks us k = none ∧ atKey zs key = none) ∨ ∃ d w c u, Vi.get ks us k = some d ∧ atKey zs key = some (c, u) ∧ RelV w u ∧ DR (wd X C) F μ d w))) := by
    intro ks us k y kx kv hd hk dk rk
    rcases keyOk_case hk with ⟨key, e, hp⟩ | ⟨ys, key, rfl, e, hdp, hp⟩
    · obtain ⟨a, kvs, rfl, hkd, hr⟩ := LR.dctK hd R.sub hp
      obtain ⟨h1, h2, vs, kv', hm⟩ := Inv.rdK I hkd
      refine ⟨a, rx, h1, .inl ⟨key, vs, ?_, hm, ?_⟩⟩
      · have ei : kx = kV key := by cases k <;> cases e <;> cases dk <;> rfl
        subst ei
        exact kV_is rk
      · have rel := KV.val kv' key
        rcases DRk.get e hr with ⟨k1, k2⟩ | ⟨d, w, k1, k2, k3⟩
        · rw [k2] at rel
          cases ev : valueAt vs key with
          | none => exact .inl ⟨k1, rfl⟩
          | some u => rw [ev] at rel; cases rel
        · rw [k2] at rel
          cases ev : valueAt vs key with
          | none => rw [ev] at rel; cases rel
          | some u => rw [ev] at rel; exact .inr ⟨d, w, u, k1, rfl, rel, k3⟩
    · obtain ⟨a, zs, rfl, hkd, hr⟩ := LR.dctN hd R.sub hp
      obtain ⟨h1, h2, hm, h4⟩ := Inv.rdX I R.sub hkd hr
      obtain ⟨b, rfl⟩ : ∃ b, kx = .ref b := by cases dk; exact ⟨_, rfl⟩
      obtain rfl : kv = Value.ref b := rk
      refine ⟨a, rx, h1, .inr ⟨b, key, zs, rfl, ⟨DR.isKey I R.sub dk rfl e, hdp⟩, hm, ?_⟩⟩
      rcases DRn.get e hr with z | ⟨d, c, u, w, k1, k2, k3, k4⟩
      · exact .inl z
      · exact .inr ⟨d, w, c, u, k1, k2, k3, k4⟩
  unfold kGet at p
  split at p
  · cases rd with
    | cons dk t =>
      cases t
      cases rv with
      | cons rk t =>
        cases t
        obtain ⟨d, h1, p2⟩ := Post.rdh p R r
        cases d with
        | dct ks us =>
          obtain ⟨hk, p3⟩ := mapp p2
          obtain ⟨a, rfl, hs, hh⟩ := look (y := .non) h1 hk dk rk
          rcases hh with ⟨key, vs, q1, q2, q3⟩ | ⟨b, key, zs, rfl, q1, q2, q3⟩
          · refine call_meetsIn PySem.F.slot_dict_get q2.typeIs PySem.F.entry_dict_get (PySem.F.args_dict_get_2 _ _) (meets_dict_get (mixKind X.prog X.w) a q1 hs) ⟨_, q2.mapOf, ?_⟩
            rcases q3 with ⟨g1, g2⟩ | ⟨d, w, u, g1, g2, g3, g4⟩
            · rw [g1] at p3; rw [g2]; exact ⟨.non, H, I.tok _, rfl, Post.retV (d := .non) p3 R .non⟩
            · rw [g1] at p3; rw [g2]; exact ⟨w, H, I.tok _, g3, Post.retV (d := d) p3 R g4⟩
          · refine call_meetsIn PySem.F.slot_dict_get q2.typeIs PySem.F.entry_dict_get (PySem.F.args_dict_get_2 _ _) (meetsH_dict_get (nestedKind X.prog X.w) a b hs) ⟨room, key, zs, q1, q2, ?_⟩
            rcases q3 with ⟨g1, g2⟩ | ⟨d, w, c, u, g1, g2, g3, g4⟩
            · rw [g1] at p3; rw [g2]; exact ⟨.non, H, I.tok _, rfl, Post.retV (d := .non) p3 R .non⟩
            · rw [g1] at p3; rw [g2]; exact ⟨w, H, I.tok _, g3, Post.retV (d := d) p3 R g4⟩
        | _ => exact p2.elim
  · cases rd with
    | cons dk t =>
      cases t with
      | cons dx t =>
        cases t
        cases rv with
        | cons rk t =>
          cases t with
          | cons rx2 t =>
            cases t
            obtain ⟨d, h1, p2⟩ := Post.rdh p R r
            cases d with
            | dct ks us =>
              obtain ⟨hk, p3⟩ := mapp p2
              obtain ⟨a, rfl, hs, hh⟩ := look (y := .non) h1 hk dk rk
              rcases hh with ⟨key, vs, q1, q2, q3⟩ | ⟨b, key, zs, rfl, q1, q2, q3⟩
              · refine call_meetsIn PySem.F.slot_dict_get q2.typeIs PySem.F.entry_dict_get (PySem.F.args_dict_get_3 _ _ _) (meets_dict_get_default (mixKind X.prog X.w) a q1 hs _) ⟨_, q2.mapOf, ?_⟩
                rcases q3 with ⟨g1, g2⟩ | ⟨d, w, u, g1, g2, g3, g4⟩
                · rw [g1] at p3; rw [g2]; exact ⟨_, H, I.tok _, rx2, Post.retV p3 R dx⟩
                · rw [g1] at p3; rw [g2]; exact ⟨w, H, I.tok _, g3, Post.retV (d := d) p3 R g4⟩
              · refine call_meetsIn PySem.F.slot_dict_get q2.typeIs PySem.F.entry_dict_get (PySem.F.args_dict_get_3 _ _ _) (meetsH_dict_get_default (nestedKind X.prog X.w) a b hs _) ⟨room, key, zs, q1, q2, ?_⟩
                rcases q3 with ⟨g1, g2⟩ | ⟨d, w, c, u, g1, g2, g3, g4⟩
                · rw [g1] at p3; rw [g2]; exact ⟨_, H, I.tok _, rx2, Post.retV p3 R dx⟩
                · rw [g1] at p3; rw [g2]; exact ⟨w, H, I.tok _, g3, Post.retV (d := d) p3 R g4⟩
            | _ => exact p2.elim
  · exact p.elim
end
end Vi
/-! text Vi24 -/
set_option Elab.async false
set_option linter.all false
set_option maxRecDepth 100000
set_option maxHeartbeats 1000000
/-! Vi, part 24: a, b = .., .. -/
namespace Vi
open PySem PySem.Spec PyProof.Rows L2

def putO (i : Nat) (o : O) : MS := put1 i o
def puts : List Nat → List O → MS
  | [], [] => mSkip
  | i :: is, o :: os => mSeq (put1 i o) (puts is os)
  | _, _ => fun _ => .fail
def mPar (is : List Nat) (m : M (List O)) : MS := mThen m (puts is)
/-- new things are different ones -/
def Dis : List O → List V → Prop
  | .w _ :: os, v :: vs => (∀ (k : Nat) (d : D) (u : V), os[k]? = some (.w d) → vs[k]? = some u → u ≠ v) ∧ Dis os vs
  | _ :: os, _ :: vs => Dis os vs
  | _, _ => True
def ORn (W : Wd) : RT (List O) (List V) := fun H0 F μ S σ H os vs => ORs W H0 F μ S σ H os vs ∧ Dis os vs
instance {W : Wd} : Bk (ORn W) := ⟨fun h k => ⟨h.1.back k, h.2⟩⟩
theorem ORs.get {W : Wd} {H0 F : Hp} {μ : List Addr} {S : St} {σ : L2.St} {H : Hp} : ∀ {os : List O} {vs : List V}, ORs W H0 F μ S σ H os vs → ∀ {k : Nat} {o : O} {v : V}, os[k]? = some o → vs[k]? = some v → OR W H0 F μ S σ H o v
  | _, _, .cons a t, 0, o, v, h1, h2 => by cases h1; cases h2; exact a
  | _, _, .cons a t, k + 1, o, v, h1, h2 => ORs.get t (by simpa using h1) (by simpa using h2)
section
variable {X : Cx} {C : Cc} {E : XK} {e : Expr} {es : List Expr}
theorem sn_nil : PA X [] (tG (wd X C) E (ORn (wd X C)) mONil) := paW pa_nil fun σ H Q ⟨F, μ, S, R, p⟩ => Post.ret p R (b := []) ⟨ORs.nil, True.intro⟩
theorem sn_cons {ma : M O} {mr : M (List O)} (ha : PE X e (tE (wd X C) E ma)) (hr : PA X es (tG (wd X C) E (ORn (wd X C)) mr)) (hs : starEach (e :: es) X.env = (false, eval e X.env) :: starEach es X.env) : PA X (e :: es) (tG (wd X C) E (ORn (wd X C)) (mOCons ma mr)) :=
  paW (pa_cons ha hr hs) fun σ H Q ⟨F, μ, S, R, p⟩ => ⟨F, μ, S, R, (by
    unfold Post mOCons Vi.bind at p
    unfold Post
    cases e1 : ma S with
    | fail => rw [e1] at p; exact p
    | exc c d S1 => rw [e1] at p; exact p
    | ok o S1 =>
      rw [e1] at p
      dsimp only at p
      intro F1 μ1 v H1 t1 n1 r1
      refine ⟨F1, μ1, S1, t1.rel, ?_⟩
      unfold Post
      cases e2 : mr S1 with
      | fail => rw [e2] at p; exact p
      | exc c d S2 => rw [e2] at p; exact fun F2 μ2 H2 dx v t2 => p F2 μ2 H2 dx v (t1.trans t2)
      | ok os S2 =>
        rw [e2] at p
        intro F2 μ2 vs H2 t2 n2 r2
        refine p F2 μ2 (v :: vs) H2 (t1.trans t2) (n1.trans n2) ⟨.cons (r1.step t2 n2) (r2.1.back t1.trk), ?_⟩
        cases o with
        | w d =>
          refine ⟨fun k d' u h1 h2 z => ?_, r2.2⟩
          subst z
          obtain ⟨a, e3, l, _⟩ := r1
          obtain ⟨b, e4, _, _, _, _, h0⟩ := ORs.get r2.1 h1 h2
          rw [e3] at e4; cases e4
          exact l.trk h0
        | _ => exact r2.2)⟩
end
theorem put1_step {W : Wd} {F F0 : Hp} {μ μ0 : List Addr} {S S0 S' : St} {σ σ0 : L2.St} {H H0 : Hp} {i : Nat} {o : O} {v : V} (e : put1 i o S = .nx S') (t : Step W F0 μ0 S0 σ0 H0 F μ S σ H) (r : OR W H0 F μ S σ H o v) : Step W F0 μ0 S0 σ0 H0 F μ S' (σ.set i (some v)) H := by
  cases o with
  | v d => cases e; exact t.trans (Step.setS t.rel r)
  | w d => cases e; exact Step.setW t r
  | «at» j => cases e
def PX (W : Wd) (H0 F : Hp) (μ : List Addr) (S : St) (σ : L2.St) (H : Hp) (os : List O) (vs : List V) : Prop := os.length = vs.length ∧ ∀ (k : Nat) (o : O) (v : V), os[k]? = some o → vs[k]? = some v → (∀ j, o ≠ .at j) → OR W H0 F μ S σ H o v
theorem ORs.px {W : Wd} {H0 F : Hp} {μ : List Addr} {S : St} {σ : L2.St} {H : Hp} : ∀ {os : List O} {vs : List V}, ORs W H0 F μ S σ H os vs → PX W H0 F μ S σ H os vs := fun {os vs} h => by
  refine ⟨?_, fun k o v h1 h2 _ => ORs.get h h1 h2⟩
  induction h with
  | nil => rfl
  | cons a t ih => simp [ih]
/-- the slots are given them -/
theorem puts_post {W : Wd} {D : Ends} {F0 : Hp} {μ0 : List Addr} {S0 : St} {σ0 : L2.St} {H0 : Hp} : ∀ {is : List Nat} {os : List O} {vs : List V} {F : Hp} {μ : List Addr} {S : St} {σ : L2.St} {H : Hp} {SE : RF}, puts is os S = SE → Step W F0 μ0 S0 σ0 H0 F μ S σ H → PX W H0 F μ S σ H os vs → Dis os vs →
    (match SE with
    | .nx S' => ∀ F' μ' σ' H', Step W F0 μ0 S0 σ0 H0 F' μ' S' σ' H' → D.nx σ' H'
    | _ => False) → vs.length = is.length ∧ D.nx ((is.zip vs).foldl (fun s p => s.set p.1 (some p.2)) σ) H
  | [], [], vs, F, μ, S, σ, H, SE, e, t, r, _, q => by
    cases e
    have hv : vs = [] := List.eq_nil_of_length_eq_zero r.1.symm
    subst hv
    exact ⟨rfl, q F μ σ H t⟩
  | [], o :: os, vs, F, μ, S, σ, H, SE, e, t, r, _, q => by cases e; exact q.elim
  | i :: is, [], vs, F, μ, S, σ, H, SE, e, t, r, _, q => by cases e; exact q.elim
  | i :: is, o :: os, [], F, μ, S, σ, H, SE, e, t, r, _, q => by have := r.1; simp at this
  | i :: is, o :: os, v :: vs, F, μ, S, σ, H, SE, e, t, r, dis, q => by
    unfold puts mSeq at e
    cases e1 : put1 i o S with
    | nx S' =>
      rw [e1] at e
      dsimp only at e
      have no : ∀ j, o ≠ .at j := fun j z => by subst z; cases e1
      have r0 := r.2 0 o v rfl rfl no
      have t' := put1_step e1 t r0
      have dis' : Dis os vs := by
        cases o with
        | w d => exact dis.2
        | _ => exact dis
      have r' : PX W H0 F μ S' (σ.set i (some v)) H os vs := by
        refine ⟨by have := r.1; simpa using this, fun k o2 v2 h1 h2 no2 => ?_⟩
        have q2 := r.2 (k + 1) o2 v2 (by simpa using h1) (by simpa using h2) no2
        cases o2 with
        | v d => exact q2
        | «at» j => exact absurd rfl (no2 j)
        | w d2 =>
          obtain ⟨b, k1, k2, k3, k4, k5, k6⟩ := q2
          refine ⟨b, k1, k2, k3, k4, fun z => ?_, k6⟩
          obtain ⟨j, d3, z1, z2⟩ := z
          cases o with
          | v d =>
            cases e1
            rcases get_set z1 with ⟨_, z, _⟩ | ⟨hj, z1⟩
            · cases z
            · rw [List.getElem?_set_ne (Ne.symm hj)] at z2
              exact k5 ⟨j, d3, z1, z2⟩
          | w d =>
            cases e1
            rcases get_set z1 with ⟨rfl, z, hl⟩ | ⟨hj, z1⟩
            · rw [List.getElem?_set_self (by rw [← t.rel.len]; exact hl)] at z2
              injection z2 with z2
              injection z2 with z2
              exact dis.1 k d2 v2 h1 h2 (k1.trans z2.symm)
            · rw [List.getElem?_set_ne (Ne.symm hj)] at z2
              exact k5 ⟨j, d3, z1, z2⟩
          | «at» j => cases e1
      obtain ⟨h1, h2⟩ := puts_post e t' r' dis' q
      exact ⟨by simp [h1], h2⟩
    | rt _ _ => rw [e1] at e; cases e; exact q.elim
    | exc _ _ _ => rw [e1] at e; cases e; exact q.elim
    | fail => rw [e1] at e; cases e; exact q.elim
theorem par_of {W : Wd} {E : XK} {is : List Nat} {m : M (List O)} {D : Ends} {σ : L2.St} {H : Hp} (h : tS W E (mPar is m) D σ H) : tG W E (ORn W) m σ H fun vs H1 => vs.length = is.length ∧ D.nx ((is.zip vs).foldl (fun s p => s.set p.1 (some p.2)) σ) H1 := by
  obtain ⟨F, μ, S, R, p⟩ := h
  refine ⟨F, μ, S, R, ?_⟩
  unfold PostS mPar mThen at p
  unfold Post
  cases e1 : m S with
  | fail => rw [e1] at p; exact p
  | exc c d S1 => rw [e1] at p; exact fun F' μ' H' dx v t => p F' μ' σ H' dx v t
  | ok os S1 =>
    rw [e1] at p
    dsimp only at p
    intro F1 μ1 vs H1 t n r
    refine puts_post (SE := puts is os S1) rfl t r.1.px r.2 ?_
    have nr : ∀ (is : List Nat) (os : List O) (S : St), (∃ S', puts is os S = .nx S') ∨ puts is os S = .fail := by
      intro is
      induction is with
      | nil => intro os S; cases os with
        | nil => exact .inl ⟨_, rfl⟩
        | cons _ _ => exact .inr rfl
      | cons i is ih => intro os S; cases os with
        | nil => exact .inr rfl
        | cons o os =>
          cases o with
          | v d => exact ih os _
          | w d => exact ih os _
          | «at» j => exact .inr rfl
    rcases nr is os S1 with ⟨S', e⟩ | e
    · rw [e] at p ⊢; exact p
    · rw [e] at p; exact p.elim
section
variable {X : Cx} {C : Cc} {E : XK} {a b c : Expr} {ma mb mc : M O}
theorem ss_par2 {i j : Nat} {x y : Str} {px py pt pos : Pos} {kt k2 : Nat} {pt2 : Pos} (hc : X.calm = true) (hN : X.N.Nodup) (hi : X.N[i]? = some x) (hj : X.N[j]? = some y) (hij : i ≠ j) (hx : X.env.scope.names.lookup x = some .local) (hy : X.env.scope.names.lookup y = some .local)
    (ha : PE X a (tE (wd X C) E ma)) (hb : PE X b (tE (wd X C) E mb)) (hw : swappedStores [.Tuple [.Name x px, .Name y py] kt pt] (.Tuple [a, b] k2 pt2) X.env = pure (some [x, y])) (s1 : starEach [a, b] X.env = (false, eval a X.env) :: starEach [b] X.env) (s2 : starEach [b] X.env = (false, eval b X.env) :: starEach [] X.env) :
    PS X (.Assign [.Tuple [.Name x px, .Name y py] kt pt] (.Tuple [a, b] k2 pt2) pos) (tS (wd X C) E (mPar [i, j] (mOCons ma (mOCons mb mONil)))) :=
  psW' (ps_par hc hN hi hj hij hx hy (sn_cons ha (sn_cons hb sn_nil s2) s1) hw rfl) fun D σ H h => by
    obtain ⟨F, μ, S, R, p⟩ := par_of h
    refine ⟨F, μ, S, R, p.mono fun vs H1 ⟨hl, q⟩ => ?_⟩
    match vs, hl, q with
    | [u, v], _, q => exact ⟨u, v, rfl, q⟩
theorem ss_par3 {i j l : Nat} {x y z : Str} {px py pz pt pos : Pos} {kt k2 : Nat} {pt2 : Pos} (hc : X.calm = true) (hN : X.N.Nodup) (hi : X.N[i]? = some x) (hj : X.N[j]? = some y) (hl : X.N[l]? = some z) (hij : i ≠ j) (hil : i ≠ l) (hjl : j ≠ l)
    (hx : X.env.scope.names.lookup x = some .local) (hy : X.env.scope.names.lookup y = some .local) (hz : X.env.scope.names.lookup z = some .local) (ha : PE X a (tE (wd X C) E ma)) (hb : PE X b (tE (wd X C) E mb)) (hcc : PE X c (tE (wd X C) E mc))
    (hw : swappedStores [.Tuple [.Name x px, .Name y py, .Name z pz] kt pt] (.Tuple [a, b, c] k2 pt2) X.env = pure (some [x, y, z])) (s0 : starEach [a, b, c] X.env = (false, eval a X.env) :: starEach [b, c] X.env) (s1 : starEach [b, c] X.env = (false, eval b X.env) :: starEach [c] X.env)
    (s2 : starEach [c] X.env = (false, eval c X.env) :: starEach [] X.env) :
    PS X (.Assign [.Tuple [.Name x px, .Name y py, .Name z pz] kt pt] (.Tuple [a, b, c] k2 pt2) pos) (tS (wd X C) E (mPar [i, j, l] (mOCons ma (mOCons mb (mOCons mc mONil))))) :=
  psW' (ps_par3 hc hN hi hj hl hij hil hjl hx hy hz (sn_cons ha (sn_cons hb (sn_cons hcc sn_nil s2) s1) s0) hw rfl) fun D σ H h => by
    obtain ⟨F, μ, S, R, p⟩ := par_of h
    refine ⟨F, μ, S, R, p.mono fun vs H1 ⟨hl, q⟩ => ?_⟩
    match vs, hl, q with
    | [u, v, w], _, q => exact ⟨u, v, w, rfl, q⟩
/-- names, one after another -/
def gNms (is : List Nat) : TGs := fun vs σ H Q => vs.length = is.length ∧ Q ((is.zip vs).foldl (fun s p => s.set p.1 (some p.2)) σ) H
theorem gnms_nil : PGs X [] (gNms []) := pgsW pgs_nil fun vs σ H Q ⟨h, q⟩ => by
  have hv : vs = [] := List.eq_nil_of_length_eq_zero h
  subst hv
  exact ⟨rfl, q⟩
theorem gnms_cons {i : Nat} {is : List Nat} {x : Str} {p : Pos} {ts : List Expr} (hN : X.N.Nodup) (hi : X.N[i]? = some x) (hx : Loc X.env.scope x) (hf : X.fn x = true ∨ X.env.scope.names.lookup x = some .local) (h : PGs X ts (gNms is)) : PGs X (.Name x p :: ts) (gNms (i :: is)) :=
  pgsW (pgs_cons (pg_name hN hi hx hf) h rfl) fun vs σ H Q ⟨hl, q⟩ => by
    cases vs with
    | nil => cases hl
    | cons v vs => exact ⟨v, vs, rfl, by simpa using hl, q⟩
theorem Step.upNew {W : Wd} {F F0 : Hp} {μ μ0 : List Addr} {S S0 : St} {σ σ0 : L2.St} {H H0 : Hp} {p : Addr} {o : HO} (t : Step W F0 μ0 S0 σ0 H0 F μ S σ H) (hp : H p = none) : Step W F0 μ0 S0 σ0 H0 F μ S σ (upd H p o) := t.trans (Step.new t.rel hp)
theorem OR.upNew {W : Wd} {H0 F : Hp} {μ : List Addr} {S : St} {σ : L2.St} {H : Hp} {o : O} {v : V} {p : Addr} {u : HO} (R : Rel W F μ S σ H) (h : OR W H0 F μ S σ H o v) (hp : H p = none) : OR W H0 F μ S σ (upd H p u) o v := OR.step h (Step.new R hp) (Ne.refl S)
theorem ORs.upNew {W : Wd} {H0 F : Hp} {μ : List Addr} {S : St} {σ : L2.St} {H : Hp} {os : List O} {vs : List V} {p : Addr} {u : HO} (R : Rel W F μ S σ H) (h : ORs W H0 F μ S σ H os vs) (hp : H p = none) : ORs W H0 F μ S σ (upd H p u) os vs := ORs.step h (Step.new R hp) (Ne.refl S)
theorem ORs.length {W : Wd} {H0 F : Hp} {μ : List Addr} {S : St} {σ : L2.St} {H : Hp} {os : List O} {vs : List V} (h : ORs W H0 F μ S σ H os vs) : os.length = vs.length := h.px.1
/-- the tuple is made, then unpacked into names -/
theorem ss_parT {is : List Nat} {ts es : List Expr} {m : M (List O)} {kt k2 : Nat} {pt pt2 pos : Pos} (hc : X.calm = true) (hg : PGs X ts (gNms is)) (ha : PA X es (tG (wd X C) E (ORn (wd X C)) m)) (hz : is.length ≤ sizeLine) (hn : (assignEach ts X.env).length = is.length)
    (hst : (assignEach ts X.env).findIdx? (·.1) = none) (hw : swappedStores [.Tuple ts kt pt] (.Tuple es k2 pt2) X.env = pure none) : PS X (.Assign [.Tuple ts kt pt] (.Tuple es k2 pt2) pos) (tS (wd X C) E (mPar is m)) :=
  psW' (ps_asg (pe_tup ha) (pg_tup hc hg hn hst) rfl hw rfl) fun D σ H ⟨F, μ, S, R, p⟩ => by
    refine ⟨F, μ, S, R, ?_⟩
    unfold PostS mPar mThen at p
    unfold Post
    cases e1 : m S with
    | fail => rw [e1] at p; exact p
    | exc c d S1 => rw [e1] at p; exact fun F' μ' H' dx v t => p F' μ' σ H' dx v t
    | ok os S1 =>
      rw [e1] at p
      dsimp only at p
      intro F1 μ1 vs H1 t n r
      have nr : ∀ (is : List Nat) (os : List O) (S : St), (os.length = is.length ∧ ∃ S', puts is os S = .nx S') ∨ puts is os S = .fail := by
        intro is
        induction is with
        | nil => intro os S; cases os with
          | nil => exact .inl ⟨rfl, _, rfl⟩
          | cons _ _ => exact .inr rfl
        | cons i is ih => intro os S; cases os with
          | nil => exact .inr rfl
          | cons o os =>
            cases o with
            | v d => rcases ih os { S with σ := S.σ.set i (.s d) } with ⟨h1, h2⟩ | h; exact .inl ⟨by simp [h1], h2⟩; exact .inr h
            | w d => rcases ih os { S with σ := S.σ.set i (.o d) } with ⟨h1, h2⟩ | h; exact .inl ⟨by simp [h1], h2⟩; exact .inr h
            | «at» j => exact .inr rfl
      rcases nr is os S1 with ⟨hl, S', e⟩ | e
      · have lv := r.1.length
        refine ⟨by omega, fun q hq => ?_⟩
        obtain ⟨k1, k2⟩ := puts_post (D := D) (SE := puts is os S1) rfl (t.upNew (o := .tup vs) hq) (r.1.upNew t.rel hq).px r.2 (by rw [e] at p ⊢; exact p)
        exact ⟨q, vs, rfl, .inl (.inl upd_same), k1, k1, k2⟩
      · rw [e] at p; exact p.elim
end
end Vi
/-! text Vi24a -/
set_option Elab.async false
set_option linter.all false
set_option maxRecDepth 100000
set_option maxHeartbeats 1000000
/-! Vi, part 24a: list(range(..)). -/
namespace Vi
open PySem PySem.Spec PyProof.Rows L2

def intD : D → M Int
  | .int i => ret i
  | _ => fail
def lrg (i j : Int) : M O := if inRange i && inRange j && decide (j - i ≤ 1000000) then ret (.w (.lst (rngs i 1 (j - i).toNat))) else fail
def mLrg1 (a : M O) : M O := bind a fun x => bind (rd x) fun d => bind (intD d) fun n => lrg 0 n
def mLrg2 (a b : M O) : M O := bind a fun x => bind b fun y => bind (rd x) fun d => bind (rd y) fun e => bind (intD d) fun i => bind (intD e) fun j => lrg i j
section
variable {X : Cx} {C : Cc} {E : XK} {F : Hp} {μ : List Addr} {S : St} {σ : L2.St} {H H0 : Hp} {a b : Expr} {ma mb : M O} {p p2 pos pos2 : Pos}
theorem intD_post {d : D} {v : V} {k : Int → M O} {Q : VK} (h : LR (wd X C) F μ H d v) (p : Post (wd X C) E (OR (wd X C)) (Vi.bind (intD d) k) F μ S σ H Q) : ∃ i, v = .int i ∧ Post (wd X C) E (OR (wd X C)) (k i) F μ S σ H Q := by
  cases d with
  | int i => exact ⟨i, h.int, p⟩
  | _ => exact p.elim
theorem rngs_dr {i : Int} : ∀ (n : Nat), DRs (wd X C) F μ (rngs i 1 n) ((List.range n).map fun (k : Nat) => V.int (i + k)) := fun n => by
  unfold rngs
  generalize List.range n = l
  induction l with
  | nil => exact .nil
  | cons x l ih => exact .cons (by show DR _ _ _ (D.int (i + (x : Int) * 1)) (V.int (i + (x : Int))); rw [Int.mul_one]; exact .int _) ih
theorem lrg_post {i j : Int} {Q : VK} (R : Rel (wd X C) F μ S σ H) (p : Post (wd X C) E (OR (wd X C)) (lrg i j) F μ S σ H Q) : RgOk i j ∧ ∀ q, H q = none → Q (.ref q) (upd H q (.lst (rgV i j))) := by
  obtain ⟨h, p2⟩ := mapb p
  simp only [Bool.and_eq_true, decide_eq_true_eq] at h
  have h1 := dIn h.1.1
  have h2 := dIn h.1.2
  refine ⟨?_, fun q hq => ?_⟩
  · exact ⟨by omega, by omega, by omega, by omega, by have := h.2; omega⟩
  · have := Post.newL p2 R (rngs_dr _) hq
    exact this
theorem se_lrg1 (hc : X.calm = true) (hg : Gl X "list") (hm : X.mg "list" = none) (hg2 : Gl X "range") (hm2 : X.mg "range" = none) (ha : PE X a (tE (wd X C) E ma)) (hs : starEach [a] X.env = (false, eval a X.env) :: starEach [] X.env) :
    PE X (.Call (.Name "list" p) [.Call (.Name "range" p2) [a] [] pos2] [] pos) (tE (wd X C) E (mLrg1 ma)) :=
  peW (pe_listRg hc hg hm (prg_1 hg2 hm2 ha hs) rfl) fun σ H Q ⟨F, μ, S, R, p⟩ => ⟨F, μ, S, R, (Post.bind p).mono fun v H1 ⟨o, F1, μ1, S1, r1, t1, n1, p1⟩ => by
    obtain ⟨d, h1, p2⟩ := Post.rd p1 t1.rel r1
    obtain ⟨i, rfl, p3⟩ := intD_post h1 p2
    exact ⟨i, rfl, lrg_post t1.rel p3⟩⟩
theorem se_lrg2 (hc : X.calm = true) (hg : Gl X "list") (hm : X.mg "list" = none) (hg2 : Gl X "range") (hm2 : X.mg "range" = none) (ha : PE X a (tE (wd X C) E ma)) (hb : PE X b (tE (wd X C) E mb)) (hs : starEach [a, b] X.env = (false, eval a X.env) :: starEach [b] X.env)
    (hs2 : starEach [b] X.env = (false, eval b X.env) :: starEach [] X.env) (hp : (backTo pos2 (starEach [b] X.env)).any (·.1) = false) :
    PE X (.Call (.Name "list" p) [.Call (.Name "range" p2) [a, b] [] pos2] [] pos) (tE (wd X C) E (mLrg2 ma mb)) :=
  peW (pe_listRg hc hg hm (prg_2 hg2 hm2 ha hb hs hs2 hp) rfl) fun σ H Q ⟨F, μ, S, R, p⟩ => ⟨F, μ, S, R, (Post.bind p).mono fun v H1 ⟨o, F1, μ1, S1, r1, t1, n1, p1⟩ => ⟨F1, μ1, S1, t1.rel, (Post.bind p1).mono fun v2 H2 ⟨o2, F2, μ2, S2, r2, t2, n2, p2⟩ => by
    obtain ⟨d, h1, p3⟩ := Post.rd p2 t2.rel (r1.step t2 n2)
    obtain ⟨e, h2, p4⟩ := Post.rd p3 t2.rel r2
    obtain ⟨i, rfl, p5⟩ := intD_post h1 p4
    obtain ⟨j, rfl, p6⟩ := intD_post h2 p5
    exact ⟨i, j, rfl, rfl, lrg_post t2.rel p6⟩⟩⟩
end
end Vi
/-! text Vi24b -/
set_option Elab.async false
set_option linter.all false
set_option maxRecDepth 100000
set_option maxHeartbeats 4000000
/-! Vi, part 24b: dict comprehensions, keys of any kind. -/
namespace Vi
open PySem PySem.Spec PyProof.Rows L2

/-- D[y] = z is done, then Nx -/
def DPutN (X : Cx) (D : Addr) (y z : V) (H : Hp) (Nx : Hp → Prop) : Prop := ∀ (Y : Cx), Y.prog = X.prog → Y.w = X.w → Y.K = X.K → Y.A = X.A → ∀ (pins : List (Addr × Obj)) (s : Shared) (σ : L2.St) (u r : Value) (Q : Unit → Shared → Prop) (E : Value → Shared → Prop), L2.Inv Y pins σ H s → RelV y u → RelV z r →
  (∀ s' H', L2.Inv Y pins σ H' s' → Nx H' → Q () s') → wpAny (model X.prog X.w) X.A (dictSet D u r) Q E s
def tDcG (X : Cx) (wi : TI) (g : TG) (tt : TT) (tk tv : TE) (vs : List Nat) : TE := fun σ H Q => wi σ H fun J H1 => ∀ D, H1 D = none → ∃ W : Nat → Nat → Hp → Prop, (∃ m, W 0 m (upd H1 D (.dK []))) ∧ ∀ i m H, W i m H →
  (J.stop i H ∧ Q (.ref D) H) ∨ (J.go i H ∧ ∃ Nx : Hp → Prop, (∀ H', Nx H' → ∃ m', m' < m ∧ W (i + 1) m' H') ∧ ∀ x H', J.yld i H x H' → g x (wipe σ vs) H' fun σ2 H2 => wipe σ2 vs = wipe σ vs ∧ tt σ2 H2 fun b H3 =>
    if b = true then tk σ2 H3 fun y H4 => tv σ2 H4 fun z H5 => DPutN X D y z H5 Nx else Nx H3)
section
variable {X : Cx}
theorem dcG_core {pins : List (Addr × Obj)} {s : Shared} {σ : L2.St} {H : Hp} {Q : VK} {kx vx tg iter : Expr} {ifs : List Expr} {scope : Scope} {own : List (Str × Nat)} {pos pos' : Pos} {wi : TI} {g : TG} {tt : TT} {tk tv : TE} {use : Option (Value → Sem Unit)} {Qf : Value → Shared → Prop}
    (clm : X.calm = true) (nodN : X.N.Nodup) (I : L2.Inv X pins σ H s) (itOk : PI X tg iter wi) (bok : BlkOk X.N X.env.scope scope own)
    (tgOk : ∀ (s : Shared) (H : Hp) (C : Addr) (cl : List (Str × Addr)) (fp : List Addr), PG (X.blk s H scope (compEnvC scope cl C X.env) fp) tg g) (tsOk : ∀ (s : Shared) (H : Hp) (C : Addr) (cl : List (Str × Addr)) (fp : List Addr), PTs (X.blk s H scope (compEnvC scope cl C X.env) fp) ifs tt)
    (kxOk : ∀ (s : Shared) (H : Hp) (C : Addr) (cl : List (Str × Addr)) (fp : List Addr), PE (X.blk s H scope (compEnvC scope cl C X.env) fp) kx tk)
    (vxOk : ∀ (s : Shared) (H : Hp) (C : Addr) (cl : List (Str × Addr)) (fp : List Addr), PE (X.blk s H scope (compEnvC scope cl C X.env) fp) vx tv) (foldN : ∀ x, foldedSetIterable iter X.env x = pure x)
    (rdg : tDcG X wi g tt tk tv (own.map (·.2)) σ H Q)
    (kOut : ∀ D C s' m H', L2.Inv X pins σ H' s' → Q (.ref D) H' → s'.heap.Ns C m → FpOk X pins H' C → compPost (model X.prog X.w) X.A X.xe use Qf (.ref D) C (.ok .next) s') :
    wpAny (model X.prog X.w) X.A (comprehension (.DictComp kx vx [⟨tg, iter, ifs, 0⟩] scope pos) scope X.env pos' newDict false (eval iter X.env) use) Qf X.xe s := by
  have frees : ∀ y ∈ scope.names, y.2 = .free → ∃ c, X.env.cells.lookup y.1 = some c := fun y hy e => by
    rcases bok.free y hy e with k | k
    · exact I.ok.has _ (.inl k)
    · exact I.ok.has _ (.inr k)
  refine wpAny_comprehension_free (use := use) rfl foldN (closure_ok frees) bok.kind (fun y hy e => by rw [bok.uniq y hy, e])
    (thn (itOk.run pins s σ H _ I rdg) fun xv s1 hx => thn hx fun itv s2 h2 => ?_)
  obtain ⟨it, fp, tn, J, H2, e, I2, T, st2, f2, q⟩ := h2
  subst e
  refine wpAny_newObj_type (newEnv_comp ?_)
  generalize hD : s2.heap.objs.size = D
  have newD : H2 D = none := I2.hok.fresh (Nat.le_of_eq hD)
  obtain ⟨W, ⟨m0, w0⟩, turn⟩ := q D newD
  -- the new list
  generalize e3 : ({ s2 with heap := s2.heap.push { cls := .type "dict", data := .dict #[] } } : Shared) = s3
  have I3 : L2.Inv X pins σ (upd H2 D (.dK [])) s3 := by
    rw [← e3]
    refine I2.laid (t' := s2.toks) (fun b o e => Heap.get?_push_of_some _ e) (Nat.le_of_eq hD) ?_
    rw [← hD]
    exact dk_empty s2.heap I2.big
  have hp3 : s3.heap = s2.heap.push { cls := .type "dict", data := .dict #[] } := by rw [← e3]
  have inS2 : ∀ b ∈ fp, b < s2.heap.objs.size := fun b hb => by
    obtain ⟨o, e, _⟩ := T.obj _ _ st2 b hb
    exact Heap.lt_size e
  have fpOk3 : ∀ b ∈ fp, FpOk X pins (upd H2 D (.dK [])) b ∧ b < s3.heap.objs.size := fun b hb => by
    have hlt := inS2 b hb
    refine ⟨⟨?_, (f2 b hb).2⟩, by rw [hp3, Heap.size_push]; exact Nat.lt_succ_of_lt hlt⟩
    rw [upd_ne (by rw [← hD]; exact Nat.ne_of_lt hlt)]
    exact (f2 b hb).1
  have tn3 : tn 0 s3.heap := T.keep _ _ _ st2 fun b _ o e => by rw [hp3]; exact Heap.get?_push_of_some _ e
  have I4 := block_start I3 bok nodN fpOk3
  have pgT := tgOk s3 (upd H2 D (.dK [])) s3.heap.objs.size (cellsFrom (s3.heap.objs.size + 1) scope.names (cloFrom X.env.cells scope.names [])) fp
  have ptT := tsOk s3 (upd H2 D (.dK [])) s3.heap.objs.size (cellsFrom (s3.heap.objs.size + 1) scope.names (cloFrom X.env.cells scope.names [])) fp
  have pkT := kxOk s3 (upd H2 D (.dK [])) s3.heap.objs.size (cellsFrom (s3.heap.objs.size + 1) scope.names (cloFrom X.env.cells scope.names [])) fp
  have peT := vxOk s3 (upd H2 D (.dK [])) s3.heap.objs.size (cellsFrom (s3.heap.objs.size + 1) scope.names (cloFrom X.env.cells scope.names [])) fp
  show codeAny _ _ (.compStart (.DictComp kx vx [⟨tg, iter, ifs, 0⟩] scope pos) 0 (.ref it) (.ref D) (compEnvC scope (cellsFrom (s3.heap.objs.size + 1) scope.names (cloFrom X.env.cells scope.names [])) s3.heap.objs.size X.env)) (compPost (model X.prog X.w) X.A X.xe use Qf (.ref D) s3.heap.objs.size) { s3 with heap := pushCells (s3.heap.push { cls := .type "dict", data := .dict #[] }) scope.names }
  have noFp : ∀ b ∈ fp, (upd H2 D (.dK [])) b = none := fun b hb => (fpOk3 b hb).1.1
  generalize eCe : compEnvC scope (cellsFrom (s3.heap.objs.size + 1) scope.names (cloFrom X.env.cells scope.names [])) s3.heap.objs.size X.env = ce at I4 pgT ptT pkT peT ⊢
  have locE : ce.locals = s3.heap.objs.size := by subst eCe; rfl
  generalize eH3 : upd H2 D (.dK []) = H3 at I3 I4 pgT ptT pkT peT w0 noFp fpOk3
  generalize e4 : ({ s3 with heap := pushCells (s3.heap.push { cls := .type "dict", data := .dict #[] }) scope.names } : Shared) = s4 at I4 ⊢
  have tn4 : tn 0 s4.heap := T.keep _ _ _ tn3 fun b _ o e => by rw [← e4]; exact pushCells_keeps _ _ _ _ (Heap.get?_push_of_some _ e)
  have stays : ∀ {σ' : L2.St} {H' : Hp} {s' : Shared}, L2.Inv (X.blk s3 H3 scope ce fp) [] σ' H' s' → (∀ b ∈ fp, H' b = none) → ∀ b ∈ fp, FpOk (X.blk s3 H3 scope ce fp) [] H' b := fun {σ' H' s'} I' hn b hb =>
    ⟨hn b hb, (I'.ok.exf b hb).1, I'.ok.exfs b hb, .inl hb, fun x c e => (I'.ok.exf b hb).2 x c e, fun p hp => absurd (show p ∈ ([] : List (Addr × Obj)) ++ [] from hp) (by simp)⟩
  have runs_ : codeAny (model X.prog X.w) X.A (.compLoop (.DictComp kx vx [⟨tg, iter, ifs, 0⟩] scope pos) 0 (.ref it) (.ref D) ce) (compPost (model X.prog X.w) X.A X.xe use Qf (.ref D) s3.heap.objs.size) s4 := by
    refine compLoop_anyD (fun n s' => ∃ i H', L2.Inv (X.blk s3 H3 scope ce fp) [] (wipe σ (own.map (·.2))) H' s' ∧ tn i s'.heap ∧ (∀ b ∈ fp, H' b = none) ∧ W i n H') ?_ m0 ⟨0, H3, I4, tn4, noFp, w0⟩
    rintro n s5 ⟨i, H5, I5, st5, n5, w5⟩
    rcases turn i n H5 w5 with ⟨stop, qq⟩ | ⟨go, Nx, hNx, step⟩
    · have doneT := T.done (X.blk s3 H3 scope ce fp) rfl rfl rfl clm i [] s5 _ H5 (fun _ _ => False) I5 (stays I5 n5) st5 stop
      refine thnF doneT fun r s6 ⟨hr, I6⟩ => ?_
      subst hr
      -- back in the def's context
      have I7 : L2.Inv X pins σ H5 s6 := I3.call' (ch := fp) I6.os I6.base I6.hok I6.bare fun b hb => ⟨(fpOk3 b hb).1.2.2.2.1, (fpOk3 b hb).1.2.1, (fpOk3 b hb).1.2.2.2.2.1, (fpOk3 b hb).1.2.2.2.2.2⟩
      have noC : H5 s3.heap.objs.size = none := by
        have z : H5 ce.locals = none := I6.free
        rw [locE] at z
        exact z
      obtain ⟨m, hn, _⟩ := I6.loc
      have hn : s6.heap.Ns ce.locals m := hn
      rw [locE] at hn
      exact kOut D s3.heap.objs.size s6 m H5 I7 qq hn (I3.fpOk (Nat.le_refl _) noC)
    · have itemT := T.item (X.blk s3 H3 scope ce fp) rfl rfl rfl clm i [] s5 _ H5 (fun _ _ => False) I5 (stays I5 n5) st5 go
      refine thnF itemT fun r s6 ⟨u, hr, h6⟩ => ?_
      subst hr
      refine thnF h6 fun _ s7 ⟨x, H7, I7, r7, y7, st7, n7⟩ => ?_
      have I7' := I7.pinned (stays I7 n7) (T.obj _ _ st7)
      refine thnF (pgT.run _ s7 _ H7 x u _ I7' r7 (step x H7 y7)) fun _ s8 ⟨σ8, H8, I8, hw8, q8⟩ => ?_
      refine thnF (ptT.run _ s8 σ8 H8 _ I8 q8) fun b s9 ⟨H9, I9, q9⟩ => ?_
      -- the turn's end
      have endT : ∀ {s' : Shared} {H' : Hp}, L2.Inv (X.blk s3 H3 scope ce fp) ([] ++ pinsAt fp s7.heap) σ8 H' s' → Nx H' → ∃ m, m < n ∧ ∃ i H', L2.Inv (X.blk s3 H3 scope ce fp) [] (wipe σ (own.map (·.2))) H' s' ∧ tn i s'.heap ∧ (∀ b ∈ fp, H' b = none) ∧ W i m H' := fun {s' H'} I' nx => by
        obtain ⟨m', hm, w'⟩ := hNx H' nx
        have pin' : ∀ b ∈ fp, ∀ o, s7.heap.get? b = some o → s'.heap.get? b = some o ∧ H' b = none := fun b hb o e =>
          let z := I'.pin (b, o) (List.mem_append_right _ (List.mem_append_right _ (mem_pinsAt hb e)))
          ⟨z.1, z.2.1⟩
        have hl : (wipe σ (own.map (·.2))).length = σ8.length := by rw [← hw8, wipe_length]
        refine ⟨m', hm, i + 1, H', (I'.unpinned (pins := [])).weak hl (fun j v e => ?_), T.keep _ _ _ st7 fun b hb o e => (pin' b hb o e).1, fun b hb => ?_, w'⟩
        · rw [← hw8] at e
          exact (wipe_some e).1
        · obtain ⟨o, e, _⟩ := T.obj _ _ st7 b hb
          exact (pin' b hb o e).2
      cases b with
      | false =>
        simp only [Bool.false_eq_true, if_false] at q9 ⊢
        exact endT I9 q9
      | true =>
        simp only [if_true] at q9 ⊢
        refine thnF (pkT.run _ s9 σ8 H9 _ I9 q9) fun z s10 ⟨yk, H10, I10, r10, q10⟩ => ?_
        refine thnF (peT.run _ s10 σ8 H10 _ I10 q10) fun z2 s11 ⟨yv, H11, I11, r11, put⟩ => ?_
        exact put (X.blk s3 H3 scope ce fp) rfl rfl rfl rfl _ s11 σ8 z z2 _ _ I11 r10 r11 fun s12 H12 I12 nx => endT I12 nx
  exact codeAny_compStart_dict runs_ (T.self X.A 0 _ _ _ tn4 runs_)

theorem pe_dcG {kx vx tg iter : Expr} {ifs : List Expr} {scope : Scope} {own : List (Str × Nat)} {pos : Pos} {wi : TI} {g : TG} {tt : TT} {tk tv : TE} (clm : X.calm = true) (nodN : X.N.Nodup) (itOk : PI X tg iter wi) (bok : BlkOk X.N X.env.scope scope own)
    (tgOk : ∀ (s : Shared) (H : Hp) (C : Addr) (cl : List (Str × Addr)) (fp : List Addr), PG (X.blk s H scope (compEnvC scope cl C X.env) fp) tg g) (tsOk : ∀ (s : Shared) (H : Hp) (C : Addr) (cl : List (Str × Addr)) (fp : List Addr), PTs (X.blk s H scope (compEnvC scope cl C X.env) fp) ifs tt)
    (kxOk : ∀ (s : Shared) (H : Hp) (C : Addr) (cl : List (Str × Addr)) (fp : List Addr), PE (X.blk s H scope (compEnvC scope cl C X.env) fp) kx tk)
    (vxOk : ∀ (s : Shared) (H : Hp) (C : Addr) (cl : List (Str × Addr)) (fp : List Addr), PE (X.blk s H scope (compEnvC scope cl C X.env) fp) vx tv) (foldN : ∀ x, foldedSetIterable iter X.env x = pure x) :
    PE X (.DictComp kx vx [⟨tg, iter, ifs, 0⟩] scope pos) (tDcG X wi g tt tk tv (own.map (·.2))) := by
  refine ⟨fun pins s σ H Q I h => ?_⟩
  rw [arm_eval_DictComp]
  refine dcG_core clm nodN I itOk bok tgOk tsOk kxOk vxOk foldN h fun D C s' m H' I' q hn f => ⟨m, hn, fun h'' sb => ?_⟩
  obtain ⟨f0, f1, f2, f3, f4, f5⟩ := f
  exact ⟨.ref D, H', I'.turned (t' := s'.toks) (fun b o hb e => (sb.2 b hb).trans e) f0 f1 f3 f4 f5, rfl, q⟩
end
end Vi
/-! text Vi24c -/
set_option Elab.async false
set_option linter.all false
set_option maxRecDepth 100000
set_option maxHeartbeats 4000000
/-! Vi, part 24c: dict comprehensions. -/
namespace Vi
open PySem PySem.Spec PyProof.Rows L2

section
variable {X : Cx} {C : Cc} {F : Hp} {μ : List Addr} {S : St} {σ : L2.St} {H H0 : Hp}
theorem dput_of {D : Addr} {ks us : List Vi.D} {k d : Vi.D} {y z : V} {Nx : Hp → Prop} (hu : X.A.units + 66 < cLine) (R : Sub F H) (l : Liv (wd X C) F μ H D (.dct ks us)) (hc : keyOk ks k = true) (hz0 : ks.length < line) (dk : DR (wd X C) F μ k y) (dd : DR (wd X C) F μ d z)
    (q : ∀ o, Liv (wd X C) F μ (upd H D o) D (.dct (Vi.put ks us k d).1 (Vi.put ks us k d).2) → Nx (upd H D o)) : DPutN X D y z H Nx := by
  intro Y hP hw hK hA pins s σ u r Q E I ri rv fin
  have hmut : L2.Mut (H D) := l.mut
  rw [line_eq] at hz0
  rcases keyOk_case hc with ⟨key, hk, hp⟩ | ⟨ys, key, rfl, hk, hdp, hp⟩
  · obtain ⟨kvs, hkd, hr⟩ := LR.kdW R l hp
    have hkd' : KD Y H D kvs := by unfold KD at hkd ⊢; rw [hP, hw]; exact hkd
    obtain ⟨h1, h2, vs, kv, hm⟩ := Inv.rdK I hkd'
    rw [hP, hw] at hm
    have hl : kvs.length = vs.length := Paired.length kv
    have hz : (putK kvs key z).length ≤ sizeLine := by
      have := length_putK kvs key z
      have := hr.len
      omega
    have ei : y = kV key := by cases k <;> cases hk <;> cases dk <;> rfl
    subst ei
    refine wpAny_dictSet_pairs (hsz := by rw [← hl]; exact h2) (kV_is ri) hm fun h' dd' hs => ?_
    have he : ∃ q, h'.get? D = some q := let ⟨q, _, _, hq, _⟩ := dd'; ⟨q, hq⟩
    have new : ObjOk Y.prog Y.w (upd H D (.dK (putK kvs key z))) h' D (.dK (putK kvs key z)) := by rw [hP, hw]; exact dk_new hz h1 (kv.put key rv) dd'
    exact fin _ _ (d_write I hmut hs he new) (q _ (.inl ⟨_, upd_same, DRk.put (X := X) hk dd hr (KD.nd I hkd')⟩))
  · obtain ⟨xs, hkd, hr⟩ := LR.ndW R l hp
    have hkd' : NDx Y H D xs := by unfold NDx at hkd ⊢; rw [hP, hw]; exact hkd
    have hr' : DRn (wd Y C) F μ ks us xs := by have e : wd Y C = wd X C := by unfold wd; rw [hP, hw, hK]
                                               rw [e]; exact hr
    obtain ⟨h1, h2, hm, h4⟩ := Inv.rdX I R hkd' hr'
    have nd : (xs.map (·.1)).Nodup := by obtain ⟨_, _, _, _, _, _, _, _, n⟩ := hm; exact n
    obtain ⟨b, rfl⟩ : ∃ b, y = .ref b := by cases dk; exact ⟨_, rfl⟩
    obtain rfl : u = Value.ref b := ri
    rw [hP, hw] at hm
    have room : (nestedKind X.prog X.w).room X.A := by show X.A.units + 8 < cLine; omega
    have dkY : DR (wd Y C) F μ (.tup ys) (.ref b) := by have e : wd Y C = wd X C := by unfold wd; rw [hP, hw, hK]
                                                        rw [e]; exact dk
    refine wpAny_dictSet_heap (hsz := h2) room ⟨DR.isKey I R dkY rfl hk, hdp⟩ hm fun h' dd' hs => ?_
    have he : ∃ q, h'.get? D = some q := let ⟨q, _, _, hq, _⟩ := dd'; ⟨q, hq⟩
    have hr2 := DRn.put (X := X) hk dk rv dd hr nd
    have hz : (storedH xs key b r).length ≤ sizeLine := by
      have k1 := hr.len
      have : (storedH xs key b r).length ≤ xs.length + 1 := by
        unfold storedH
        split <;> simp
      omega
    have hx : ∀ x ∈ storedH xs key b r, x.1.depth ≤ 8 := fun x hx => by
      unfold storedH at hx
      split at hx
      · obtain ⟨y, hy, rfl⟩ := List.mem_map.mp hx
        unfold putAt
        split <;> exact h4 y hy
      · rcases List.mem_append.mp hx with hx | hx
        · exact h4 x hx
        · obtain rfl := List.mem_singleton.mp hx; exact hdp
    have new : ObjOk Y.prog Y.w (upd H D (ND X.prog X.w D (storedH xs key b r))) h' D (ND X.prog X.w D (storedH xs key b r)) := by rw [hP, hw]; exact nd_new hz h1 hx dd'
    exact fin _ _ (d_write I hmut hs he new) (q _ (.inr ⟨_, upd_same, hr2⟩))
/-- one turn: what is put -/
def dc1 (vs : List Nat) (g : Vi.D → M Unit) (tt : M Bool) (tk tv : M Vi.D) (x : Vi.D) : M (Option (Vi.D × Vi.D)) := bind (g x) fun _ => bind tt fun b => bind (if b then bind tk fun k => bind tv fun d => ret (some (k, d)) else ret none) fun r s => .ok r (s.mask vs)
def dcGo (vs : List Nat) (g : Vi.D → M Unit) (tt : M Bool) (tk tv : M Vi.D) : List Vi.D → List Vi.D × List Vi.D → M (List Vi.D × List Vi.D)
  | [], acc => ret acc
  | x :: xs, acc => bind (dc1 vs g tt tk tv x) fun r => match r with
    | none => dcGo vs g tt tk tv xs acc
    | some (k, d) => if keyOk acc.1 k && decide (acc.1.length < line) then dcGo vs g tt tk tv xs (Vi.put acc.1 acc.2 k d) else fail
def mDc (vs : List Nat) (mi : M (List Vi.D)) (g : Vi.D → M Unit) (tt : M Bool) (tk tv : M Vi.D) : M O := bind mi fun items s => match dcGo vs g tt tk tv items ([], []) (s.mask vs) with
  | .ok ds s2 => .ok (.w (.dct ds.1 ds.2)) (s2.back vs s)
  | _ => .fail
end
structure DcI (W : Wd) (F1 : Hp) (μ1 : List Addr) (S1 : St) (σ : L2.St) (H1 : Hp) (vs : List Nat) (D : Addr) (go : List Vi.D × List Vi.D → St → Prop) (H : Hp) (F : Hp) (μ : List Addr) (S : St) (acc : List Vi.D × List Vi.D) : Prop where
  t : Step W F1 μ1 (S1.mask vs) (wipe σ vs) H1 F μ S (wipe σ vs) H
  m : S.mask vs = S
  n : Ne (S1.mask vs) S
  w : OR W H1 F μ S (wipe σ vs) H (.w (.dct acc.1 acc.2)) (.ref D)
  g : go acc S
section
variable {X : Cx} {C : Cc} {E E' : XK} {σ : L2.St} {H : Hp} {vs : List Nat}
theorem tDc_of {ws : List Nat} {mi : M (List D)} {g : D → M Unit} {tt : M Bool} {tk tv : M D} {Q : VK} (hu : X.A.units + 66 < cLine) (hw : ∀ i ∈ ws, i ∈ vs) (p : tE (wd X C) E (mDc vs mi g tt tk tv) σ H Q) : tDcG X (tI (wd X C) E mi) (tGt (wd X C) ws g) (tT (wd X C) E' tt) (tD (wd X C) E' tk) (tD (wd X C) E' tv) vs σ H Q := by
  obtain ⟨F, μ, S, R, p⟩ := p
  refine ⟨F, μ, S, R, ?_⟩
  unfold Post mDc Vi.bind at p
  unfold Post
  cases e1 : mi S with
  | fail => rw [e1] at p; exact p
  | exc c d S1 => rw [e1] at p; exact p
  | ok items S1 =>
  rw [e1] at p
  dsimp only at p
  intro F1 μ1 J H1 t1 n1 hJ D hD
  cases e2 : dcGo vs g tt tk tv items ([], []) (S1.mask vs) with
  | fail => rw [e2] at p; exact p.elim
  | exc c d S2 => rw [e2] at p; exact p.elim
  | ok ds S2 =>
  rw [e2] at p
  dsimp only at p
  refine ⟨fun i m H' => m = items.length - i ∧ i ≤ items.length ∧ ∃ F2 μ2 S' acc, DcI (wd X C) F1 μ1 S1 σ H1 vs D (fun acc S' => dcGo vs g tt tk tv (items.drop i) acc S' = .ok ds S2) H' F2 μ2 S' acc, ⟨items.length, by simp, Nat.zero_le _, F1, μ1, S1.mask vs, ([], []), ?_, mask_mask _ _, Ne.refl _, ?_, by simpa using e2⟩, ?_⟩
  · exact Step.new t1.rel.mask hD
  · have R1 := t1.rel.mask (vs := vs)
    exact ⟨D, rfl, .inl ⟨[], upd_same, .nil⟩, fun z => R1.muTrk z hD, R1.noF hD, fun z => R1.ownTrk z hD, hD⟩
  rintro i m H' ⟨rfl, hi, F2, μ2, S', acc, I⟩
  obtain ⟨hgo, hst⟩ := hJ F2 μ2 S' (wipe σ vs) H' I.t.sub I.t.pre I.t.rel i
  by_cases hlt : i < items.length
  · obtain ⟨hg, hy⟩ := hgo hlt
    have hd : items.drop i = items[i] :: items.drop (i + 1) := List.drop_eq_getElem_cons hlt
    have g0 := I.g
    rw [hd] at g0
    obtain ⟨r, Sm, q1, q2⟩ := bind_okE g0
    obtain ⟨_, Sg, qg, q3⟩ := bind_okE q1
    obtain ⟨b, St, qt, q4⟩ := bind_okE q3
    obtain ⟨r', Se, qe, q5⟩ := bind_okE q4
    cases q5
    refine .inr ⟨hg, fun H'' => i + 1 ≤ items.length ∧ ∃ F2 μ2 S' acc, DcI (wd X C) F1 μ1 S1 σ H1 vs D (fun acc S' => dcGo vs g tt tk tv (items.drop (i + 1)) acc S' = .ok ds S2) H'' F2 μ2 S' acc, fun H'' z => ⟨items.length - (i + 1), by omega, rfl, z⟩, fun x H3 y => ?_⟩
    obtain ⟨d, F3, ed, ty, rd⟩ := hy x H3 y
    rw [List.getElem?_eq_getElem hlt] at ed
    cases ed
    refine ⟨F3, μ2, S', _, ty.rel, rd, ?_⟩
    unfold PostG
    rw [qg]
    intro F4 μ4 σ4 H4 tg ng og
    refine ⟨og.wipe hw, ?_⟩
    have hwσ : wipe σ4 vs = wipe σ vs := og.wipe hw
    refine ⟨F4, μ4, Sg, tg.rel, Post.okE qt fun F5 μ5 b' H5 tt_ nt rb => ?_⟩
    cases rb
    have T5 := ((I.t.trans ty).trans tg).trans tt_
    have w5 := ((I.w.stepW ty).stepW tg).stepW tt_
    cases b with
    | false =>
      simp only [Bool.false_eq_true, if_false] at qe ⊢
      cases qe
      have T6 := T5.mask (vs := vs)
      rw [hwσ] at T6
      refine ⟨hlt, F5, μ5, St.mask vs, acc, T6, mask_mask _ _, ?_, ?_, by simpa using q2⟩
      · have := ((I.n.trans ng).trans nt).mask (vs := vs)
        rwa [mask_mask] at this
      · obtain ⟨a, h1, h2, h3, h4, h5, h6⟩ := w5
        cases h1
        exact ⟨D, rfl, h2, h3, h4, fun z => h5 (by rw [← hwσ] at z; exact (Own.unmask z).1), h6⟩
    | true =>
      simp only [if_true] at qe ⊢
      obtain ⟨kd, Sk, qk, qe2⟩ := bind_okE qe
      obtain ⟨d, Sd, qd, qr⟩ := bind_okE qe2
      cases qr
      dsimp only at q2
      by_cases hz : (keyOk acc.1 kd && decide (acc.1.length < line)) = true
      case neg => rw [if_neg hz] at q2; cases q2
      rw [if_pos hz] at q2
      rw [Bool.and_eq_true, decide_eq_true_eq] at hz
      refine ⟨F5, μ5, St, T5.rel, Post.okE qk fun F6 μ6 kv H6 tkd nkd rdk => ⟨F6, μ6, Sk, (T5.trans tkd).rel, Post.okE qd fun F7 μ7 yv H7 td nd rdd => ?_⟩⟩
      have T7 := (T5.trans tkd).trans td
      obtain ⟨a, h1, h2, h3, h4, h5, h6⟩ := (w5.stepW tkd).stepW td
      cases h1
      refine dput_of hu T7.rel.sub h2 hz.1 hz.2 (DR.mono td.sub td.pre rdk) rdd fun o lo => ⟨hlt, F7, μ7, Se.mask vs, _, ?_, mask_mask _ _, ?_, ?_, q2⟩
      · have := ((T7.upW h3 h4 h5 h6 h2.ntb (o := o)).mask (vs := vs))
        rwa [hwσ] at this
      · have := ((((I.n.trans ng).trans nt).trans nkd).trans nd).mask (vs := vs)
        rwa [mask_mask] at this
      · exact ⟨D, rfl, lo, h3, h4, fun z => h5 (by rw [← hwσ] at z; exact (Own.unmask z).1), h6⟩
  · have ei : i = items.length := by omega
    refine .inl ⟨hst (by omega), ?_⟩
    have g0 := I.g
    rw [ei, List.drop_length] at g0
    cases g0
    have hl : S1.σ.length = S2.σ.length := by rw [t1.rel.len, ← wipe_length σ vs]; exact I.t.rel.len.symm
    have tb := Step.unmask t1.rel I.t I.m
    refine p F2 μ2 (.ref D) H' (t1.trans tb) (n1.trans (Ne.back hl I.n)) ?_
    obtain ⟨a, h1, h2, h3, h4, h5, h6⟩ := I.w
    cases h1
    refine ⟨D, rfl, h2, h3, h4, fun z => ?_, t1.trk _ hD⟩
    rcases tb.own D z with z | z
    · exact t1.rel.ownTrk z hD
    · have R1 := t1.rel
      obtain ⟨j, e, k1, k2⟩ := (‹Own (S2.back vs S1) σ D› : Own _ _ _)
      have k1 : (Vi.unmask vs 0 S1.σ S2.σ)[j]? = some (.o e) := k1
      rw [unmask_get vs _ _ _ _ hl, Nat.zero_add] at k1
      by_cases hc : vs.contains j = true
      · rw [if_pos hc] at k1; exact R1.ownTrk ⟨j, e, k1, k2⟩ hD
      · rw [if_neg hc] at k1; exact h5 ⟨j, e, k1, (wipe_keep (by simpa using hc)).trans k2⟩
theorem se_dc {kx vx tg iter : Expr} {ifs : List Expr} {scope : Scope} {own : List (Str × Nat)} {pos : Pos} {ws : List Nat} {mi : M (List D)} {g : D → M Unit} {tt : M Bool} {mk mv : M O} (hu : X.A.units + 66 < cLine) (hc : X.calm = true) (hN : X.N.Nodup) (hi : PI X tg iter (tI (wd X C) E mi)) (ok : BlkOk X.N X.env.scope scope own) (hw : ∀ i ∈ ws, i ∈ own.map (·.2))
    (hg : ∀ (s : Shared) (H : Hp) (A : Addr) (cl : List (Str × Addr)) (fp : List Addr), PG (X.blk s H scope (compEnvC scope cl A X.env) fp) tg (tGt (wd X C) ws g))
    (ht : ∀ (s : Shared) (H : Hp) (A : Addr) (cl : List (Str × Addr)) (fp : List Addr), PTs (X.blk s H scope (compEnvC scope cl A X.env) fp) ifs (tT (wd X C) XF tt))
    (hk : ∀ (s : Shared) (H : Hp) (A : Addr) (cl : List (Str × Addr)) (fp : List Addr), PE (X.blk s H scope (compEnvC scope cl A X.env) fp) kx (tE (wd X C) XF mk))
    (he : ∀ (s : Shared) (H : Hp) (A : Addr) (cl : List (Str × Addr)) (fp : List Addr), PE (X.blk s H scope (compEnvC scope cl A X.env) fp) vx (tE (wd X C) XF mv)) (hs : ∀ x, foldedSetIterable iter X.env x = pure x) :
    PE X (.DictComp kx vx [⟨tg, iter, ifs, 0⟩] scope pos) (tE (wd X C) E (mDc (own.map (·.2)) mi g tt (bind mk esc) (bind mv esc))) :=
  peW (pe_dcG hc hN hi ok hg ht (fun s H A cl fp => pe_esc (hk s H A cl fp)) (fun s H A cl fp => pe_esc (he s H A cl fp)) hs) fun σ H Q p => tDc_of hu hw p
/-- name = {..} on one line, the name a local -/
theorem ps_setDcG {i : Nat} {y : Str} {py : Pos} {kx vx tg iter : Expr} {ifs : List Expr} {scope : Scope} {own : List (Str × Nat)} {pos spos : Pos} {wi : TI} {g : TG} {tt : TT} {tk tv : TE} (clm : X.calm = true) (nodN : X.N.Nodup) (hy : X.N[i]? = some y) (hyl : X.env.scope.names.lookup y = some .local)
    (hsw : swapsWith (.DictComp kx vx [⟨tg, iter, ifs, 0⟩] scope pos) (some (.Name y py)) spos.line X.env = pure true) (itOk : PI X tg iter wi) (bok : BlkOk X.N X.env.scope scope own)
    (tgOk : ∀ (s : Shared) (H : Hp) (A : Addr) (cl : List (Str × Addr)) (fp : List Addr), PG (X.blk s H scope (compEnvC scope cl A X.env) fp) tg g) (tsOk : ∀ (s : Shared) (H : Hp) (A : Addr) (cl : List (Str × Addr)) (fp : List Addr), PTs (X.blk s H scope (compEnvC scope cl A X.env) fp) ifs tt)
    (kxOk : ∀ (s : Shared) (H : Hp) (A : Addr) (cl : List (Str × Addr)) (fp : List Addr), PE (X.blk s H scope (compEnvC scope cl A X.env) fp) kx tk)
    (vxOk : ∀ (s : Shared) (H : Hp) (A : Addr) (cl : List (Str × Addr)) (fp : List Addr), PE (X.blk s H scope (compEnvC scope cl A X.env) fp) vx tv) (foldN : ∀ x, foldedSetIterable iter X.env x = pure x) :
    PS X (.Assign [.Name y py] (.DictComp kx vx [⟨tg, iter, ifs, 0⟩] scope pos) spos) (tAsg (tDcG X wi g tt tk tv (own.map (·.2))) (gName i)) := by
  refine ⟨fun pins s σ H D I h => ?_⟩
  rw [exec_Assign_Name_used _ _ _ _ hsw]
  refine wpAny_bind (wpAny_standAt (wpAny_bind ?_))
  show wpAny _ X.A (do let _ ← comprehension (.DictComp kx vx [⟨tg, iter, ifs, 0⟩] scope pos) scope X.env (firstIterPos [⟨tg, iter, ifs, 0⟩] pos) newDict false (eval iter X.env) (some (assign (.Name y py) X.env))) _ _ s
  have rdg : tDcG X wi g tt tk tv (own.map (·.2)) σ H (fun x H1 => gName i x σ H1 D.nx) := h
  refine wpAny_bind (thn (dcG_core (Qf := fun _ s' => SP X pins D .next s') clm nodN I itOk bok tgOk tsOk kxOk vxOk foldN rdg fun L A s' m H' I' q hn f => ?_) fun _ s' hq => wpAny_pure (wpAny_pure hq))
  show wpAny _ _ (assign (.Name y py) X.env (.ref L)) _ _ _
  refine wpAny_assign_Name (store_ok2 (v := V.ref L) I' nodN hy (.inl hyl) rfl (fun s2 I2 ⟨a, sb, ha⟩ => ?_) (.inr hyl))
  obtain ⟨f0, f1, f2, f3, f4, f5⟩ := f
  have ne : A ≠ a := by
    rcases ha with z | z
    · rw [z]; exact f1
    · exact fun e => f4 y a z e.symm
  exact ⟨m, hn.sameBut sb ne, fun h3 sb3 => ⟨_, H', I2.turned (t' := s2.toks) (fun b o hb e => (sb3.2 b hb).trans e) f0 f1 f3 f4 f5, q⟩⟩
theorem dc_new {vs : List Nat} {mi : M (List Vi.D)} {g : Vi.D → M Unit} {tt : M Bool} {tk tv : M Vi.D} {S S' : St} {o : O} (h : mDc vs mi g tt tk tv S = .ok o S') : ∃ ks us, o = .w (.dct ks us) := by
  unfold mDc at h
  obtain ⟨items, S1, h1, h2⟩ := bind_okE h
  split at h2
  · cases h2; exact ⟨_, _, rfl⟩
  · cases h2
theorem ss_setDc {j : Nat} {y : Str} {py : Pos} {kx vx tg iter : Expr} {ifs : List Expr} {scope : Scope} {own : List (Str × Nat)} {pos spos : Pos} {ws : List Nat} {mi : M (List Vi.D)} {g : Vi.D → M Unit} {tt : M Bool} {mk mv : M O}
    (hu : X.A.units + 66 < cLine) (hc : X.calm = true) (hN : X.N.Nodup) (hy : X.N[j]? = some y) (hyl : X.env.scope.names.lookup y = some .local) (hsw : swapsWith (.DictComp kx vx [⟨tg, iter, ifs, 0⟩] scope pos) (some (.Name y py)) spos.line X.env = pure true)
    (hi : PI X tg iter (tI (wd X C) E mi)) (ok : BlkOk X.N X.env.scope scope own) (hw : ∀ i ∈ ws, i ∈ own.map (·.2))
    (hg : ∀ (s : Shared) (H : Hp) (A : Addr) (cl : List (Str × Addr)) (fp : List Addr), PG (X.blk s H scope (compEnvC scope cl A X.env) fp) tg (tGt (wd X C) ws g))
    (ht : ∀ (s : Shared) (H : Hp) (A : Addr) (cl : List (Str × Addr)) (fp : List Addr), PTs (X.blk s H scope (compEnvC scope cl A X.env) fp) ifs (tT (wd X C) XF tt))
    (hk : ∀ (s : Shared) (H : Hp) (A : Addr) (cl : List (Str × Addr)) (fp : List Addr), PE (X.blk s H scope (compEnvC scope cl A X.env) fp) kx (tE (wd X C) XF mk))
    (he : ∀ (s : Shared) (H : Hp) (A : Addr) (cl : List (Str × Addr)) (fp : List Addr), PE (X.blk s H scope (compEnvC scope cl A X.env) fp) vx (tE (wd X C) XF mv)) (hs : ∀ x, foldedSetIterable iter X.env x = pure x) :
    PS X (.Assign [.Name y py] (.DictComp kx vx [⟨tg, iter, ifs, 0⟩] scope pos) spos) (tS (wd X C) E (mSet j (mDc (own.map (·.2)) mi g tt (bind mk esc) (bind mv esc)))) :=
  psW' (ps_setDcG hc hN hy hyl hsw hi ok hg ht (fun s H A cl fp => pe_esc (hk s H A cl fp)) (fun s H A cl fp => pe_esc (he s H A cl fp)) hs) fun D σ H ⟨F, μ, S, R, p⟩ => tDc_of hu hw ⟨F, μ, S, R, (by
    unfold PostS mSet mThen at p
    unfold Post
    cases e1 : mDc (own.map (·.2)) mi g tt (Vi.bind mk esc) (Vi.bind mv esc) S with
    | fail => rw [bind_fail e1] at p; exact p
    | exc c d S1 => rw [bind_exc e1] at p; exact fun F' μ' H' dx v t => p F' μ' σ H' dx v t
    | ok ro S1 =>
      rw [bind_ok e1] at p
      obtain ⟨ks, us, rfl⟩ := dc_new e1
      intro F1 μ1 v H1 t n r
      exact p F1 μ1 _ H1 (Step.setW t r))⟩
end
end Vi
/-! text Vi24d -/
set_option Elab.async false
set_option linter.all false
set_option maxRecDepth 100000
set_option maxHeartbeats 4000000
/-! Vi, part 24d: dict displays. -/
namespace Vi
open PySem PySem.Spec PyProof.Rows L2

/-- keys and values in turn -/
def VP : List V → List (Value × Value) → Prop
  | [], [] => True
  | k :: v :: r, p :: ps => RelV k p.1 ∧ RelV v p.2 ∧ VP r ps
  | _, _ => False
def PPr (X : Cx) (ps : List (Sem Value × Sem Value)) (t : TA) : Prop := ∀ (pins : List (Addr × Obj)) (s : Shared) (σ : L2.St) (H : Hp) (Q : List V → Hp → Prop), L2.Inv X pins σ H s → t σ H Q →
  wpAny (model X.prog X.w) X.A (evalPairs ps) (fun vs s' => ∃ xs H', L2.Inv X pins σ H' s' ∧ VP xs vs ∧ Q xs H') X.xe s
def DPuts (X : Cx) (D : Addr) : List V → Hp → (Hp → Prop) → Prop
  | [], H, Nx => Nx H
  | k :: v :: r, H, Nx => DPutN X D k v H fun H' => DPuts X D r H' Nx
  | [_], _, _ => False
section
variable {X : Cx} {C : Cc} {E : XK}
theorem pp_nil : PPr X [] (tDs (wd X C) E mNil) := fun pins s σ H Q I ⟨F, μ, S, R, p⟩ => wpAny_pure ⟨[], H, I, True.intro, Post.ret p R (b := []) DRs.nil⟩
theorem pp_cons {k v : Expr} {ps : List (Sem Value × Sem Value)} {mk mv : M O} {mr : M (List D)} {pos : Pos} (hk : PE X k (tE (wd X C) E mk)) (hv : PE X v (tE (wd X C) E mv)) (hr : PPr X ps (tDs (wd X C) E mr)) :
    PPr X ((eval k X.env, do let x ← eval v X.env; standAt pos; pure x) :: ps) (tDs (wd X C) E (mCons mk (mCons mv mr))) := fun pins s σ H Q I ⟨F, μ, S, R, p⟩ => by
  have p1 := Post.bind (Rα := RD (wd X C)) p
  refine wpAny_bind (thn ((pe_esc hk).run pins s σ H _ I ⟨F, μ, S, R, p1⟩) fun kv s1 ⟨x, H1, I1, r1, dk, F1, μ1, S1, rk, t1, n1, q1⟩ => ?_)
  have q2 : Post (wd X C) E (RDs (wd X C)) (Vi.bind (Vi.bind mv esc) fun d => Vi.bind mr fun ds => ret (dk :: d :: ds)) F1 μ1 S1 σ H1 Q := by
    have e : (Vi.bind (mCons mv mr) fun ds => ret (dk :: ds)) = Vi.bind (Vi.bind mv esc) fun d => Vi.bind mr fun ds => ret (dk :: d :: ds) := by
      funext s
      unfold mCons Vi.bind
      cases mv s with
      | fail => rfl
      | exc c d s' => rfl
      | ok o s1 =>
        dsimp only
        cases esc o s1 with
        | fail => rfl
        | exc c d s' => rfl
        | ok d s2 => dsimp only; cases mr s2 <;> rfl
    rw [← e]; exact q1
  have q3 := Post.bind (Rα := RD (wd X C)) q2
  refine wpAny_bind (wpAny_holding (wpAny_bind (thn ((pe_esc hv).run pins s1 σ H1 _ I1 ⟨F1, μ1, S1, t1.rel, q3⟩) fun vv s2 ⟨y, H2, I2, r2, dv, F2, μ2, S2, rv, t2, n2, q4⟩ => wpAny_bind (wpAny_standAt (wpAny_pure ?_)))))
  have q5 := Post.bind (Rα := RDs (wd X C)) q4
  refine wpAny_bind (wpAny_holding (thn (hr pins s2 σ H2 _ I2 ⟨F2, μ2, S2, t2.rel, q5⟩) fun vs s3 ⟨xs, H3, I3, r3, ds, F3, μ3, S3, rd, t3, n3, q6⟩ => wpAny_pure ?_))
  exact ⟨x :: y :: xs, H3, I3, ⟨r1, r2, r3⟩, Post.ret q6 t3.rel (b := x :: y :: xs) (.cons (DR.mono (t2.sub.trans t3.sub) (fun j a z => t3.pre j a (t2.pre j a z)) rk) (.cons (DR.mono t3.sub t3.pre rv) rd))⟩
theorem dputs_run {D : Addr} {pins : List (Addr × Obj)} {σ : L2.St} {Nx : Hp → Prop} : ∀ {xs : List V} {vs : List (Value × Value)} {H : Hp} {s : Shared} {Q : Unit → Shared → Prop}, L2.Inv X pins σ H s → VP xs vs → DPuts X D xs H Nx → (∀ s' H', L2.Inv X pins σ H' s' → Nx H' → Q () s') →
    wpAny (model X.prog X.w) X.A (forIn vs PUnit.unit fun (x : Value × Value) _ => (match x with | (k, v) => do dictSet D k v; pure (ForInStep.yield PUnit.unit) : Sem (ForInStep PUnit))) (fun _ s' => Q () s') X.xe s
  | [], [], H, s, Q, I, _, d, h => by
    refine wpAny_pure ?_
    exact h s H I d
  | [], p :: ps, H, s, Q, I, v, d, h => v.elim
  | [x], vs, H, s, Q, I, v, d, h => d.elim
  | x :: y :: xs, [], H, s, Q, I, v, d, h => v.elim
  | x :: y :: xs, (p1, p2) :: ps, H, s, Q, I, ⟨v1, v2, v3⟩, d, h => by
    rw [List.forIn_cons]
    refine wpAny_bind ?_
    show wpAny _ _ (dictSet D p1 p2 >>= fun _ => pure (ForInStep.yield PUnit.unit)) _ _ _
    refine wpAny_bind (d X rfl rfl rfl rfl pins s σ p1 p2 _ _ I v1 v2 ?_)
    intro s' H' I' n'
    refine wpAny_pure ?_
    exact dputs_run I' v3 n' h
theorem pe_dsp {keys : List (Option Expr)} {values : List Expr} {pos : Pos} {pairs : List (Sem Value × Sem Value)} {t : TA} (hp : PPr X pairs t) (hshape : (evalEachOpt keys X.env).zip ((evalEach values X.env).map fun v => do let x ← v; standAt pos; pure x) = pairs.map fun p => (some p.1, p.2)) (h0 : pairs ≠ []) (hlen : pairs.length ≤ 15) :
    PE X (.Dict keys values pos) (fun σ H Q => ∀ D, H D = none → t σ (upd H D (.dK [])) fun xs H1 => DPuts X D xs H1 fun H' => Q (.ref D) H') := ⟨fun pins s σ H Q I h => by
  rw [arm_eval_Dict, hshape, dictDisplay_pairs pairs h0 (by omega)]
  refine wpAny_bind (wpAny_standAt (wpAny_bind ?_))
  unfold subDict
  refine wpAny_bind (wpAny_alloc ?_)
  refine wpAny_bind (wpAny_holding ?_)
  rw [if_pos hlen]
  have I1 : L2.Inv X pins σ (upd H s.heap.objs.size (.dK [])) { s with heap := s.heap.push { cls := .type "dict", data := .dict #[] } } := I.laid (t' := s.toks) (fun b o e => Heap.get?_push_of_some _ e) (Nat.le_refl _) (dk_empty s.heap I.big)
  refine wpAny_bind (thn (hp pins _ σ _ _ I1 (h _ (I.hok.fresh (Nat.le_refl _)))) fun vs s1 ⟨xs, H1, I2, r, q⟩ => ?_)
  refine wpAny_holding (wpAny_bind (thn (dputs_run (Q := fun _ s' => ∃ H', L2.Inv X pins σ H' s' ∧ Q (.ref s.heap.objs.size) H') I2 r q fun s' H' I' q' => ⟨H', I', q'⟩) fun _ s2 ⟨H2, I3, q2⟩ => wpAny_pure (wpAny_pure (wpAny_pure ?_))))
  exact ⟨.ref s.heap.objs.size, H2, I3, rfl, q2⟩⟩
def putAll : List Vi.D → List Vi.D × List Vi.D → Option (List Vi.D × List Vi.D)
  | [], acc => some acc
  | k :: d :: r, acc => if keyOk acc.1 k && decide (acc.1.length < line) then putAll r (Vi.put acc.1 acc.2 k d) else none
  | [_], _ => none
def mDsp (m : M (List Vi.D)) : M O := bind m fun flat => match putAll flat ([], []) with
  | some acc => ret (.w (.dct acc.1 acc.2))
  | none => fail
theorem dputs_of {D : Addr} {F F1 : Hp} {μ μ1 : List Addr} {S S1 : St} {σ : L2.St} {H : Hp} {Nx : Hp → Prop} (hu : X.A.units + 66 < cLine) {acc' : List Vi.D × List Vi.D} : ∀ {flat : List Vi.D} {xs : List V} {acc : List Vi.D × List Vi.D} {H1 : Hp}, Step (wd X C) F μ S σ H F1 μ1 S1 σ H1 → OR (wd X C) H F1 μ1 S1 σ H1 (.w (.dct acc.1 acc.2)) (.ref D) →
    DRs (wd X C) F1 μ1 flat xs → putAll flat acc = some acc' → (∀ Hf, Step (wd X C) F μ S σ H F1 μ1 S1 σ Hf → OR (wd X C) H F1 μ1 S1 σ Hf (.w (.dct acc'.1 acc'.2)) (.ref D) → Nx Hf) → DPuts X D xs H1 Nx
  | [], _, acc, H1, t, w, .nil, e, h => by cases e; exact h H1 t w
  | [_], _, acc, H1, t, w, .cons a .nil, e, h => by cases e
  | k :: d :: r, _, acc, H1, t, w, .cons a (.cons b rs), e, h => by
    unfold putAll at e
    split at e
    · rename_i hz
      rw [Bool.and_eq_true, decide_eq_true_eq] at hz
      obtain ⟨q, h1, h2, h3, h4, h5, h6⟩ := w
      cases h1
      exact dput_of hu t.rel.sub h2 hz.1 hz.2 a b fun o lo => dputs_of hu (t.upW h3 h4 h5 h6 h2.ntb (o := o)) ⟨D, rfl, lo, h3, h4, h5, h6⟩ rs e h
    · cases e
theorem se_dsp {keys : List (Option Expr)} {values : List Expr} {pos : Pos} {pairs : List (Sem Value × Sem Value)} {m : M (List Vi.D)} (hu : X.A.units + 66 < cLine) (hp : PPr X pairs (tDs (wd X C) E m)) (hshape : (evalEachOpt keys X.env).zip ((evalEach values X.env).map fun v => do let x ← v; standAt pos; pure x) = pairs.map fun p => (some p.1, p.2)) (h0 : pairs ≠ []) (hlen : pairs.length ≤ 15) :
    PE X (.Dict keys values pos) (tE (wd X C) E (mDsp m)) := peW (pe_dsp hp hshape h0 hlen) fun σ H Q ⟨F, μ, S, R, p⟩ => fun D hD => by
  refine ⟨F, μ, S, Rel.new R hD, ?_⟩
  have T0 := Step.new R (o := .dK []) hD
  unfold Post mDsp Vi.bind at p
  unfold Post
  cases e1 : m S with
  | fail => rw [e1] at p; exact p
  | exc c d S1 => rw [e1] at p; exact fun F' μ' H' dx v t => p F' μ' H' dx v (T0.trans t)
  | ok flat S1 =>
    rw [e1] at p
    dsimp only at p
    intro F1 μ1 xs H1 t n r
    cases e2 : putAll flat ([], []) with
    | none => rw [e2] at p; exact p.elim
    | some acc =>
      rw [e2] at p
      have w0 : OR (wd X C) H F μ S σ (upd H D (.dK [])) (.w (.dct [] [])) (.ref D) := ⟨D, rfl, .inl ⟨[], upd_same, .nil⟩, fun z => R.muTrk z hD, R.noF hD, fun z => R.ownTrk z hD, hD⟩
      exact dputs_of (acc := ([], [])) hu (T0.trans t) (w0.step t n) r e2 fun Hf tf wf => p F1 μ1 (.ref D) Hf tf n wf
end
end Vi
/-! text Vj1 -/
set_option Elab.async false
set_option linter.all false
set_option maxRecDepth 100000
set_option maxHeartbeats 1000000
/-! Vj, part 1: a new list, dict put into Vi's own heap. -/
namespace Vi
open PySem PySem.Spec PyProof.Rows L2

def shrO : O → M O
  | .w d => fun s => .ok (.v (.ref s.h.length)) { s with h := s.h ++ [d] }
  | _ => fail
section
variable {W : Wd} {E : XK} {F F1 : Hp} {μ μ1 : List Addr} {S S1 : St} {σ σ1 : L2.St} {H H1 : Hp} {a : Addr} {d : D}
theorem Pre.snoc : Pre μ (μ ++ [a]) := fun j b e => by
  have hj := (List.getElem?_eq_some_iff.mp e).1
  rw [List.getElem?_append_left hj]; exact e
theorem Step.shr (t : Step W F μ S σ H F1 μ1 S1 σ1 H1) (l : Liv W F1 μ1 H1 a d) (hm : a ∉ μ1) (hf : F1 a = none) (ho : ¬ Own S1 σ1 a) (h0 : H a = none) :
    Step W F μ S σ H F1 (μ1 ++ [a]) { S1 with h := S1.h ++ [d] } σ1 H1 := by
  have pre : Pre μ1 (μ1 ++ [a]) := Pre.snoc
  have R := t.rel
  refine ⟨t.sub, fun j b e => pre j b (t.pre j b e), ⟨R.len, R.sub, fun i e h => ?_, fun i e h => ?_, R.apart, ?_, fun j e b h1 h2 => ?_, ?_, R.tab⟩, t.keep, t.trk, t.own, fun b hb => ?_, t.fnew⟩
  · obtain ⟨v, h1, h2⟩ := R.sl i e h; exact ⟨v, h1, h2.mono (Sub.refl _) pre⟩
  · obtain ⟨b, h1, h2, h3, h4⟩ := R.ow i e h
    refine ⟨b, h1, h2.mono (Sub.refl _) pre rfl, fun z => ?_, h4⟩
    rcases List.mem_append.mp z with z | z
    · exact h3 z
    · have z := List.mem_singleton.mp z
      subst z
      exact ho ⟨i, e, h, h1⟩
  · simp [R.hl]
  · have h1 : (S1.h ++ [d])[j]? = some e := h1
    by_cases hj : j < S1.h.length
    · rw [List.getElem?_append_left hj] at h1
      rw [List.getElem?_append_left (by rw [← R.hl]; exact hj)] at h2
      obtain ⟨k1, k2⟩ := R.hp j e b h1 h2
      exact ⟨k1.mono (Sub.refl _) pre rfl, k2⟩
    · rw [List.getElem?_append_right (by omega)] at h1
      rw [List.getElem?_append_right (by rw [← R.hl]; omega), ← R.hl] at h2
      generalize j - S1.h.length = k at h1 h2
      cases k with
      | zero =>
        cases h1; cases h2
        exact ⟨l.mono (Sub.refl _) pre rfl, hf⟩
      | succ k => simp at h1
  · exact List.nodup_append.mpr ⟨R.inj, by simp, fun x hx y hy z => hm (by rw [List.mem_singleton.mp hy] at z; exact z ▸ hx)⟩
  · rcases List.mem_append.mp hb with z | z
    · exact t.fr b z
    · rw [List.mem_singleton.mp z]; exact .inr h0
variable {X : Cx} {e : Expr}
theorem se_shr {m : M O} (h : PE X e (tE W E m)) : PE X e (tE W E (bind m shrO)) := peW h fun σ H Q ⟨F, μ, S, R, p⟩ => ⟨F, μ, S, R, by
  unfold Post Vi.bind at p
  unfold Post
  cases e : m S with
  | fail => rw [e] at p; exact p
  | exc c d S' => rw [e] at p; exact p
  | ok o S1 =>
    rw [e] at p
    intro F1 μ1 v H1 t n r
    cases o with
    | v d => exact p.elim
    | «at» i => exact p.elim
    | w d =>
      obtain ⟨a, rfl, l, hm, hf, ho, h0⟩ := r
      refine p F1 (μ1 ++ [a]) (.ref a) H1 (t.shr l hm hf ho h0) n ?_
      refine DR.ref ?_
      rw [t.rel.hl]; simp⟩
end
end Vi
/-! text Vj2 -/
set_option Elab.async false
set_option linter.all false
set_option maxRecDepth 100000
set_option maxHeartbeats 1000000
/-! Vj, part 2: sorted, min, max of any data. -/
namespace Vi
open PySem PySem.Spec PyProof.Rows L2 PySem.W

/-! ### a stable sort that reduces -/
section
variable {α : Type}
def insW (le : α → α → Bool) (a : α) : List α → List α
  | [] => [a]
  | b :: r => if le a b then a :: b :: r else b :: insW le a r
def isortW (le : α → α → Bool) : List α → List α
  | [] => []
  | a :: r => insW le a (isortW le r)
theorem insW_perm (le : α → α → Bool) (a : α) : ∀ l : List α, (insW le a l).Perm (a :: l)
  | [] => .refl _
  | b :: r => by
    unfold insW
    split
    · exact .refl _
    · exact ((insW_perm le a r).cons b).trans (.swap a b r)
theorem isortW_perm (le : α → α → Bool) : ∀ l : List α, (isortW le l).Perm l
  | [] => .refl _
  | a :: r => (insW_perm le a (isortW le r)).trans ((isortW_perm le r).cons a)
theorem insW_sorted {le : α → α → Bool} (T : TotalLe le) (a : α) : ∀ {l : List α}, l.Pairwise (fun a b => le a b = true) → (insW le a l).Pairwise (fun a b => le a b = true)
  | [], _ => List.pairwise_singleton _ _
  | b :: r, h => by
    obtain ⟨h1, h2⟩ := List.pairwise_cons.mp h
    unfold insW
    split
    · rename_i hab
      exact List.pairwise_cons.mpr ⟨fun y hy => (List.mem_cons.mp hy).elim (fun z => z ▸ hab) fun z => T.trans a b y hab (h1 y z), h⟩
    · rename_i hab
      refine List.pairwise_cons.mpr ⟨fun y hy => ?_, insW_sorted T a h2⟩
      rcases List.mem_cons.mp ((insW_perm le a r).mem_iff.mp hy) with rfl | hy
      · exact (T.total y b).resolve_left hab
      · exact h1 y hy
theorem isortW_sorted {le : α → α → Bool} (T : TotalLe le) : ∀ l : List α, (isortW le l).Pairwise (fun a b => le a b = true)
  | [] => List.Pairwise.nil
  | a :: r => insW_sorted T a (isortW_sorted T r)
theorem insW_filter {le : α → α → Bool} (T : TotalLe le) (a c : α) : ∀ l : List α, (insW le a l).filter (sameRank le c) = (a :: l).filter (sameRank le c)
  | [] => rfl
  | b :: r => by
    unfold insW
    split
    · rfl
    · rename_i hab
      have ih := insW_filter T a c r
      rw [List.filter_cons, ih, List.filter_cons, List.filter_cons, List.filter_cons]
      cases pa : sameRank le c a with
      | false => simp
      | true =>
        cases pb : sameRank le c b with
        | false => simp
        | true =>
          unfold sameRank at pa pb
          rw [Bool.and_eq_true] at pa pb
          exact absurd (T.trans a c b pa.2 pb.1) hab
theorem isortW_filter {le : α → α → Bool} (T : TotalLe le) (c : α) : ∀ l : List α, (isortW le l).filter (sameRank le c) = l.filter (sameRank le c)
  | [] => rfl
  | a :: r => by
    show (insW le a (isortW le r)).filter _ = _
    rw [insW_filter T, List.filter_cons, List.filter_cons, isortW_filter T c r]
theorem isortW_eq {le : α → α → Bool} (T : TotalLe le) (l : List α) : isortW le l = l.mergeSort le := sort_unique T (isortW_sorted T l) fun c => isortW_filter T c l
theorem insW_congr {r s : α → α → Bool} (a : α) : ∀ {l : List α}, (∀ b ∈ l, r a b = s a b) → insW r a l = insW s a l
  | [], _ => rfl
  | b :: l, h => by
    unfold insW
    rw [h b List.mem_cons_self, insW_congr a fun c hc => h c (List.mem_cons_of_mem _ hc)]
theorem isortW_congr {r s : α → α → Bool} : ∀ {l : List α}, (∀ a ∈ l, ∀ b ∈ l, r a b = s a b) → isortW r l = isortW s l
  | [], _ => rfl
  | a :: l, h => by
    have ih := isortW_congr (r := r) (s := s) (l := l) fun x hx y hy => h x (List.mem_cons_of_mem _ hx) y (List.mem_cons_of_mem _ hy)
    show insW r a (isortW r l) = insW s a (isortW s l)
    rw [ih]
    exact insW_congr a fun b hb => h a List.mem_cons_self b (List.mem_cons_of_mem _ ((isortW_perm s l).mem_iff.mp hb))
end

/-! ### the order of trees -/
def ltNs : List Nat → List Nat → Bool
  | [], [] => false
  | [], _ :: _ => true
  | _ :: _, [] => false
  | a :: as, b :: bs => if a = b then ltNs as bs else decide (a < b)
theorem ltNs_eq : ∀ a b : List Nat, ltNs a b = decide (a < b)
  | [], [] => by simp [ltNs]
  | [], b :: bs => by simp [ltNs]
  | a :: as, [] => by simp [ltNs]
  | a :: as, b :: bs => by
    unfold ltNs
    rw [ltNs_eq as bs]
    split
    · rename_i h
      subst h
      exact decide_eq_decide.mpr (by simp)
    · rename_i h
      refine decide_eq_decide.mpr ?_
      rw [List.cons_lt_cons_iff]
      exact ⟨.inl, fun z => z.elim id fun z => absurd z.1 h⟩
mutual
/-- x < y, for trees of one shape -/
def ltD : D → D → Bool
  | .bl a, .bl b => !a && b
  | .int a, .int b => decide (a < b)
  | .str x, .str y => ltNs x.cps.toList y.cps.toList
  | .tup xs, .tup ys => ltDs xs ys
  | .lst xs, .lst ys => ltDs xs ys
  | _, _ => false
def ltDs : List D → List D → Bool
  | [], [] => false
  | [], _ :: _ => true
  | _ :: _, [] => false
  | x :: xs, y :: ys => if eqvD x y then ltDs xs ys else ltD x y
def eqvD : D → D → Bool
  | .non, .non => true
  | .bl a, .bl b => a == b
  | .int a, .int b => decide (a = b)
  | .str x, .str y => decide (x = y)
  | .tup xs, .tup ys => eqvDs xs ys
  | .lst xs, .lst ys => eqvDs xs ys
  | _, _ => false
def eqvDs : List D → List D → Bool
  | [], [] => true
  | x :: xs, y :: ys => eqvD x y && eqvDs xs ys
  | _, _ => false
end
mutual
/-- one shape -/
def alkD : D → D → Bool
  | .non, .non => true
  | .bl _, .bl _ => true
  | .int _, .int _ => true
  | .str _, .str _ => true
  | .tup xs, .tup ys => alkDs xs ys
  | .lst xs, .lst ys => alkDs xs ys
  | _, _ => false
def alkDs : List D → List D → Bool
  | x :: xs, y :: ys => alkD x y && alkDs xs ys
  | [], _ => true
  | _ :: _, [] => true
end
mutual
/-- the same shape to the last -/
def shpD : D → D → Bool
  | .non, .non => true
  | .bl _, .bl _ => true
  | .int _, .int _ => true
  | .str _, .str _ => true
  | .tup xs, .tup ys => shpDs xs ys
  | .lst xs, .lst ys => shpDs xs ys
  | _, _ => false
def shpDs : List D → List D → Bool
  | x :: xs, y :: ys => shpD x y && shpDs xs ys
  | [], [] => true
  | _, _ => false
end
/-- the data of a tree -/
def enc (d : D) : PyData := d.py.getD .none
mutual
theorem alk_ok : ∀ {x y : D} {p q : PyData}, x.py = some p → y.py = some q → alkD x y = true → alike p q = true
  | x, y, p, q, h1, h2, h => by
    cases x with
    | tup xs =>
      cases y with
      | tup ys =>
        simp only [D.py] at h1 h2
        cases e1 : D.pys xs with
        | none => rw [e1] at h1; cases h1
        | some ps =>
          rw [e1] at h1; cases h1
          cases e2 : D.pys ys with
          | none => rw [e2] at h2; cases h2
          | some qs =>
            rw [e2] at h2; cases h2
            exact alks_ok e1 e2 (by simpa [alkD] using h)
      | _ => simp [alkD] at h
    | lst xs =>
      cases y with
      | lst ys =>
        simp only [D.py] at h1 h2
        cases e1 : D.pys xs with
        | none => rw [e1] at h1; cases h1
        | some ps =>
          rw [e1] at h1; cases h1
          cases e2 : D.pys ys with
          | none => rw [e2] at h2; cases h2
          | some qs =>
            rw [e2] at h2; cases h2
            exact alks_ok e1 e2 (by simpa [alkD] using h)
      | _ => simp [alkD] at h
    | _ => cases y <;> first | (simp [alkD] at h; done) | (simp only [D.py] at h1 h2; cases h1; cases h2; rfl)
theorem alks_ok : ∀ {xs ys : List D} {ps qs : List PyData}, D.pys xs = some ps → D.pys ys = some qs → alkDs xs ys = true → alikeAll ps qs = true
  | [], ys, ps, qs, h1, h2, h => by simp only [D.pys] at h1; cases h1; exact (by rw [alikeAll])
  | x :: xs, [], ps, qs, h1, h2, h => by
    simp only [D.pys] at h2; cases h2
    cases ps with
    | nil => rw [alikeAll]
    | cons p ps => rw [alikeAll]
  | x :: xs, y :: ys, ps, qs, h1, h2, h => by
    simp only [D.pys] at h1 h2
    split at h1
    · rename_i p e1
      split at h1
      · rename_i ps' f1
        cases h1
        split at h2
        · rename_i q e2
          split at h2
          · rename_i qs' f2
            cases h2
            simp only [alkDs, Bool.and_eq_true] at h
            rw [alikeAll, alk_ok e1 e2 h.1, alks_ok f1 f2 h.2]; rfl
          · cases h2
        · cases h2
      · cases h1
    · cases h1
end
mutual
theorem eqv_ok : ∀ {x y : D} {p q : PyData}, x.py = some p → y.py = some q → alkD x y = true → PyData.eqv p q = eqvD x y
  | x, y, p, q, h1, h2, h => by
    cases x with
    | tup xs =>
      cases y with
      | tup ys =>
        simp only [D.py] at h1 h2
        cases e1 : D.pys xs with
        | none => rw [e1] at h1; cases h1
        | some ps =>
          rw [e1] at h1; cases h1
          cases e2 : D.pys ys with
          | none => rw [e2] at h2; cases h2
          | some qs =>
            rw [e2] at h2; cases h2
            have := eqvs_ok e1 e2 (by simpa [alkD] using h)
            simpa [PyData.eqv, eqvD] using this
      | _ => simp [alkD] at h
    | lst xs =>
      cases y with
      | lst ys =>
        simp only [D.py] at h1 h2
        cases e1 : D.pys xs with
        | none => rw [e1] at h1; cases h1
        | some ps =>
          rw [e1] at h1; cases h1
          cases e2 : D.pys ys with
          | none => rw [e2] at h2; cases h2
          | some qs =>
            rw [e2] at h2; cases h2
            have := eqvs_ok e1 e2 (by simpa [alkD] using h)
            simpa [PyData.eqv, eqvD] using this
      | _ => simp [alkD] at h
    | _ => cases y <;> first | (simp [alkD] at h; done) | (simp only [D.py] at h1 h2; cases h1; cases h2; first | (simp [PyData.eqv, eqvD]; done) | (simp only [PyData.eqv, eqvD]; apply Bool.eq_iff_iff.mpr; simp))
theorem eqvs_ok : ∀ {xs ys : List D} {ps qs : List PyData}, D.pys xs = some ps → D.pys ys = some qs → alkDs xs ys = true → PyData.eqvAll ps qs = eqvDs xs ys
  | [], [], ps, qs, h1, h2, h => by simp only [D.pys] at h1 h2; cases h1; cases h2; simp [PyData.eqvAll, eqvDs]
  | [], y :: ys, ps, qs, h1, h2, h => by
    simp only [D.pys] at h1 h2; cases h1
    split at h2
    · split at h2
      · cases h2; simp [PyData.eqvAll, eqvDs]
      · cases h2
    · cases h2
  | x :: xs, [], ps, qs, h1, h2, h => by
    simp only [D.pys] at h1 h2; cases h2
    split at h1
    · split at h1
      · cases h1; simp [PyData.eqvAll, eqvDs]
      · cases h1
    · cases h1
  | x :: xs, y :: ys, ps, qs, h1, h2, h => by
    simp only [D.pys] at h1 h2
    split at h1
    · rename_i p e1
      split at h1
      · rename_i ps' f1
        cases h1
        split at h2
        · rename_i q e2
          split at h2
          · rename_i qs' f2
            cases h2
            simp only [alkDs, Bool.and_eq_true] at h
            simp only [PyData.eqvAll, eqvDs, eqv_ok e1 e2 h.1, eqvs_ok f1 f2 h.2]
          · cases h2
        · cases h2
      · cases h1
    · cases h1
end
theorem b2i_lt (a b : Bool) : decide (b2i a < b2i b) = (!a && b) := by cases a <;> cases b <;> decide
mutual
theorem lt_ok : ∀ {x y : D} {p q : PyData}, x.py = some p → y.py = some q → alkD x y = true → dataLt p q = ltD x y
  | x, y, p, q, h1, h2, h => by
    cases x with
    | tup xs =>
      cases y with
      | tup ys =>
        simp only [D.py] at h1 h2
        cases e1 : D.pys xs with
        | none => rw [e1] at h1; cases h1
        | some ps =>
          rw [e1] at h1; cases h1
          cases e2 : D.pys ys with
          | none => rw [e2] at h2; cases h2
          | some qs =>
            rw [e2] at h2; cases h2
            rw [dataLt_tuple, lts_ok e1 e2 (by simpa [alkD] using h)]; simp [ltD]
      | _ => simp [alkD] at h
    | lst xs =>
      cases y with
      | lst ys =>
        simp only [D.py] at h1 h2
        cases e1 : D.pys xs with
        | none => rw [e1] at h1; cases h1
        | some ps =>
          rw [e1] at h1; cases h1
          cases e2 : D.pys ys with
          | none => rw [e2] at h2; cases h2
          | some qs =>
            rw [e2] at h2; cases h2
            rw [dataLt_list, lts_ok e1 e2 (by simpa [alkD] using h)]; simp [ltD]
      | _ => simp [alkD] at h
    | _ =>
      cases y <;> first
        | (simp [alkD] at h; done)
        | (simp only [D.py] at h1 h2; cases h1; cases h2; first
            | (rw [dataLt_int]; simp [ltD]; done)
            | (rw [dataLt_str, ← ltNs_eq]; simp [ltD]; done)
            | (rw [dataLt_bool, b2i_lt]; simp [ltD]; done)
            | (simp [dataLt, keyToks, ltD, lex_irrefl]; done))
theorem lts_ok : ∀ {xs ys : List D} {ps qs : List PyData}, D.pys xs = some ps → D.pys ys = some qs → alkDs xs ys = true → PyProof.Rows.lexLt itemOrd (keyToksAll ps) (keyToksAll qs) = ltDs xs ys
  | [], [], ps, qs, h1, h2, h => by simp only [D.pys] at h1 h2; cases h1; cases h2; rw [lex_irrefl]; simp [ltDs]
  | [], y :: ys, ps, qs, h1, h2, h => by
    simp only [D.pys] at h1 h2; cases h1
    split at h2
    · split at h2
      · cases h2
        simp only [keyToksAll, ltDs]
        rw [lex_atom (by simp)]
        decide
      · cases h2
    · cases h2
  | x :: xs, [], ps, qs, h1, h2, h => by
    simp only [D.pys] at h1 h2; cases h2
    split at h1
    · split at h1
      · cases h1
        simp only [keyToksAll, ltDs]
        rw [lex_atom (by simp)]
        decide
      · cases h1
    · cases h1
  | x :: xs, y :: ys, ps, qs, h1, h2, h => by
    simp only [D.pys] at h1 h2
    split at h1
    · rename_i p e1
      split at h1
      · rename_i ps' f1
        cases h1
        split at h2
        · rename_i q e2
          split at h2
          · rename_i qs' f2
            cases h2
            simp only [alkDs, Bool.and_eq_true] at h
            rw [dataLt_cons (alk_ok e1 e2 h.1), eqv_ok e1 e2 h.1, lts_ok f1 f2 h.2, lt_ok e1 e2 h.1]
            simp only [ltDs]
          · cases h2
        · cases h2
      · cases h1
    · cases h1
end
mutual
theorem shp_alk : ∀ {a x y : D}, shpD a x = true → shpD a y = true → alkD x y = true
  | a, x, y, h1, h2 => by
    cases a with
    | tup as =>
      cases x with
      | tup xs =>
        cases y with
        | tup ys => simp only [shpD] at h1 h2; simp only [alkD]; exact shps_alk h1 h2
        | _ => simp [shpD] at h2
      | _ => simp [shpD] at h1
    | lst as =>
      cases x with
      | lst xs =>
        cases y with
        | lst ys => simp only [shpD] at h1 h2; simp only [alkD]; exact shps_alk h1 h2
        | _ => simp [shpD] at h2
      | _ => simp [shpD] at h1
    | _ => cases x <;> first | (simp [shpD] at h1; done) | (cases y <;> first | (simp [shpD] at h2; done) | (simp [alkD]; done))
theorem shps_alk : ∀ {as xs ys : List D}, shpDs as xs = true → shpDs as ys = true → alkDs xs ys = true
  | [], xs, ys, h1, h2 => by cases xs <;> cases ys <;> first | (simp [shpDs] at h1 h2; done) | (simp [alkDs]; done)
  | a :: as, [], ys, h1, h2 => by simp [alkDs]
  | a :: as, x :: xs, [], h1, h2 => by simp [alkDs]
  | a :: as, x :: xs, y :: ys, h1, h2 => by
    simp only [shpDs, Bool.and_eq_true] at h1 h2
    simp only [alkDs, shp_alk h1.1 h2.1, shps_alk h1.2 h2.2, Bool.and_self]
end
/-- all of one shape -/
def alkAll (xs : List D) : Bool := (match xs with
  | [] => true
  | a :: _ => xs.all (shpD a)) || xs.all fun x => xs.all fun y => alkD x y
theorem alkAll_ok {xs : List D} (h : alkAll xs = true) : ∀ x ∈ xs, ∀ y ∈ xs, alkD x y = true := by
  unfold alkAll at h
  rw [Bool.or_eq_true] at h
  rcases h with h | h
  · cases xs with
    | nil => exact fun x hx => nomatch hx
    | cons a r => rw [List.all_eq_true] at h; exact fun x hx y hy => shp_alk (h x hx) (h y hy)
  · simp only [List.all_eq_true] at h
    exact h
mutual
def dpt : D → Nat
  | .tup xs => dpts xs + 1
  | .lst xs => dpts xs + 1
  | _ => 0
def dpts : List D → Nat
  | [] => 0
  | x :: xs => max (dpt x) (dpts xs)
end
mutual
theorem dpt_ok : ∀ {x : D} {p : PyData}, x.py = some p → p.depth ≤ dpt x
  | x, p, h => by
    cases x with
    | tup xs =>
      simp only [D.py] at h
      cases e1 : D.pys xs with
      | none => rw [e1] at h; cases h
      | some ps => rw [e1] at h; cases h; simp only [PyData.depth, dpt]; have := dpts_ok e1; omega
    | lst xs =>
      simp only [D.py] at h
      cases e1 : D.pys xs with
      | none => rw [e1] at h; cases h
      | some ps => rw [e1] at h; cases h; simp only [PyData.depth, dpt]; have := dpts_ok e1; omega
    | _ => simp only [D.py] at h; cases h <;> simp [PyData.depth]
theorem dpts_ok : ∀ {xs : List D} {ps : List PyData}, D.pys xs = some ps → PyData.depthAll ps ≤ dpts xs
  | [], ps, h => by simp only [D.pys] at h; cases h; simp [PyData.depthAll]
  | x :: xs, ps, h => by
    simp only [D.pys] at h
    split at h
    · rename_i p e1
      split at h
      · rename_i ps' f1
        cases h
        have a := dpt_ok e1
        have b := dpts_ok f1
        simp only [PyData.depthAll, dpts]
        omega
      · cases h
    · cases h
end
def tupOne : D → Bool
  | .tup (_ :: _) => true
  | _ => false
def notNT : D → Bool
  | .non => false
  | .tup _ => false
  | _ => true
/-- what sorted takes -/
def srtOk (xs : List D) : Bool := (D.pys xs).isSome && alkAll xs && (xs.all tupOne || xs.all notNT) && decide (dpts xs ≤ 60) && decide (xs.length ≤ line)
def leD (a b : D) : Bool := !ltD b a
def srtD (xs : List D) : List D := isortW leD xs
theorem pys_at : ∀ {xs : List D} {ps : List PyData}, D.pys xs = some ps → ps = xs.map enc ∧ ∀ x ∈ xs, x.py = some (enc x)
  | [], _, h => by simp only [D.pys] at h; cases h; exact ⟨rfl, fun x hx => nomatch hx⟩
  | x :: xs, _, h => by
    simp only [D.pys] at h
    split at h
    · rename_i p e1
      split at h
      · rename_i ps' f1
        cases h
        obtain ⟨h1, h2⟩ := pys_at f1
        have e : enc x = p := by unfold enc; rw [e1]; rfl
        refine ⟨by rw [List.map_cons, e, ← h1], fun y hy => ?_⟩
        rcases List.mem_cons.mp hy with rfl | hy
        · rw [e]; exact e1
        · exact h2 y hy
      · cases h
    · cases h
theorem dpts_mem : ∀ {xs : List D} {x : D}, x ∈ xs → dpt x ≤ dpts xs
  | y :: ys, x, h => by
    simp only [dpts]
    rcases List.mem_cons.mp h with rfl | h
    · omega
    · have := dpts_mem h; omega
theorem srtD_eq {xs : List D} {ps : List PyData} (h : alkAll xs = true) (hp : D.pys xs = some ps) : srtD xs = xs.mergeSort (dataLe false enc) := by
  obtain ⟨_, h2⟩ := pys_at hp
  have hal := alkAll_ok h
  refine (isortW_congr (s := dataLe false enc) fun a ha b hb => ?_).trans (isortW_eq (sortLe_total (listOrd itemOrd) false fun b => keyToks (enc b)) xs)
  show (!ltD b a) = (!dataLt (enc b) (enc a))
  rw [lt_ok (h2 b hb) (h2 a ha) (hal b hb a ha)]
end Vi
/-! text Vj3 -/
set_option Elab.async false
set_option linter.all false
set_option maxRecDepth 100000
set_option maxHeartbeats 1000000
/-! Vj, part 3: the rules of sorted, min, max. -/
namespace Vi
open PySem PySem.Spec PyProof.Rows L2 PySem.W

section
variable {X : Cx} {C : Cc} {E : XK} {pins : List (Addr × Obj)} {σ : L2.St} {H F : Hp} {μ : List Addr} {S : Vi.St} {s : Shared} {ks us xs : List D} {v : V}
/-- a dict as it stands, by its entries -/
theorem LR.rawE (I : L2.Inv X pins σ H s) (h : LR (wd X C) F μ H (.dct ks us) v) (hs : Sub F H) : ∃ a o es ep kx vx, v = .ref a ∧ (a == sysModules) = false ∧ s.heap.get? a = some o ∧ Raw o es ep kx vx ∧ DRs (wd X C) F μ ks kx ∧ DRs (wd X C) F μ us vx ∧ es.size ≤ sizeLine := by
  rcases LR.dctE h hs with ⟨a, kvs, rfl, hk, r⟩ | ⟨a, xs, rfl, hk, r⟩
  · obtain ⟨h1, h2, vs, kv, o, es, ep, hg, hx, hdt, _, hp, _⟩ := Inv.rdK I hk
    have hsz : es.size = kvs.length := by rw [← show es.toList.length = es.size from rfl, hp.length]; exact (Paired.length kv).symm
    have at_ : ∀ (i : Nat) (e : DictEntry), es[i]? = some e → ∃ k v u, kvs[i]? = some (k, v) ∧ keyIs k e.key = true ∧ e.val = u ∧ RelV v u := fun i e he => by
      have hi : i < kvs.length := by rw [← hsz]; exact (Array.getElem?_eq_some_iff.mp he).1
      obtain ⟨u, hu, ru⟩ := kv_get kv (i := i) (k := (kvs[i]).1) (v := (kvs[i]).2) (List.getElem?_eq_getElem hi)
      have q := hp.get? (e := e) (by simpa using he) hu
      exact ⟨_, _, u, List.getElem?_eq_getElem hi, q.1, q.2, ru⟩
    refine ⟨_, o, es, ep, _, _, rfl, h1, hg, ⟨hx, hdt, by simp [hsz], by simp [hsz], fun i x e hk he => ?_, fun i x e hk he => ?_⟩, (DRk.keys r).1, (DRk.keys r).2, by omega⟩
    · obtain ⟨k, v, u, e1, e2, e3, e4⟩ := at_ i e he
      rw [List.getElem?_map, e1] at hk; cases hk
      exact relV_key e2
    · obtain ⟨k, v, u, e1, e2, e3, e4⟩ := at_ i e he
      rw [List.getElem?_map, e1] at hk; cases hk
      rw [e3]; exact e4
  · obtain ⟨h1, h2, ⟨o, es, ep, hg, hx, hdt, he, _, hn⟩, _⟩ := Inv.rdX I hs hk r
    obtain ⟨r1, vx, r2, pr⟩ := DRn.keys r
    have hsz := size_of_entries he
    refine ⟨_, o, es, ep, _, vx, rfl, h1, hg, ⟨hx, hdt, by simp [hsz], by rw [Paired.length pr, List.length_map, hsz], fun i x e hk hq => ?_, fun i x e hk hq => ?_⟩, r1, r2, by omega⟩
    · have q := entry_at he i
      rw [hq] at q
      cases z : (_ : NX)[i]? with
      | none => rw [z] at q; cases q
      | some y =>
        rw [z] at q
        rw [List.getElem?_map, z] at hk; cases hk
        cases q
        exact rfl
    · have q := entry_at he i
      rw [hq] at q
      obtain ⟨b, hb, rb⟩ := L2.paired_get pr hk
      cases z : (_ : NX)[i]? with
      | none => rw [z] at q; cases q
      | some y =>
        rw [z] at q
        rw [List.getElem?_map, z] at hb; cases hb
        cases q
        exact rb
/-- values and trees -/
def RVD (W : Wd) (F : Hp) (μ : List Addr) (u : Value) (d : D) : Prop := ∃ x, RelV x u ∧ DR W F μ d x
theorem each_of {W : Wd} : ∀ {ds : List D} {vs : List V} {us : List Value}, DRs W F μ ds vs → Vals vs us → EachIs (RVD W F μ) us ds
  | _, _, _, .nil, .nil => .nil
  | _, _, _, .cons a t, .cons r u => .cons ⟨_, r, a⟩ (each_of t u)
theorem of_each {W : Wd} : ∀ {ds : List D} {us : List Value}, EachIs (RVD W F μ) us ds → ∃ vs, DRs W F μ ds vs ∧ Vals vs us
  | _, _, .nil => ⟨[], .nil, .nil⟩
  | _, _, .cons ⟨x, r, a⟩ t => let ⟨vs, h1, h2⟩ := of_each t; ⟨x :: vs, .cons a h1, .cons r h2⟩
theorem RVD.reads (I : L2.Inv X pins σ H s) (hs : Sub F H) {d : D} {u : Value} {p : PyData} (h : RVD (wd X C) F μ u d) (e : d.py = some p) : ∃ as, Reads s.heap u p as := by
  obtain ⟨x, r, a⟩ := h
  exact Dp.reads I p x u (LR.dp (.inl a) hs e) r
theorem each_reads (I : L2.Inv X pins σ H s) (hs : Sub F H) : ∀ {ds : List D} {us : List Value}, EachIs (RVD (wd X C) F μ) us ds → (∀ d ∈ ds, d.py = some (enc d)) → EachIs (fun v b => ∃ as, Reads s.heap v (enc b) as) us ds
  | _, _, .nil, _ => .nil
  | _, _, .cons a t, h => .cons (a.reads I hs (h _ List.mem_cons_self)) (each_reads I hs t fun d hd => h d (List.mem_cons_of_mem _ hd))

/-! ### sorted -/
def kSrt : List D → M O
  | [.lst xs] => if srtOk xs then ret (.w (.lst (srtD xs))) else fail
  | [.dct ks _] => if srtOk ks then ret (.w (.lst (srtD ks))) else fail
  | _ => fail
theorem srt_parts {ds : List D} (ok : srtOk ds = true) : (∃ ps, D.pys ds = some ps) ∧ alkAll ds = true ∧ (ds.all tupOne || ds.all notNT) = true ∧ dpts ds ≤ 60 ∧ ds.length ≤ sizeLine := by
  unfold srtOk at ok
  simp only [Bool.and_eq_true, decide_eq_true_eq] at ok
  exact ⟨Option.isSome_iff_exists.mp ok.1.1.1.1, ok.1.1.1.2, ok.1.1.2, ok.1.2, ok.2⟩
theorem sortable_of {ds : List D} (hp : ∀ x ∈ ds, x.py = some (enc x)) (h : (ds.all tupOne || ds.all notNT) = true) : Sortable (ds.map enc) := by
  rw [Bool.or_eq_true] at h
  rcases h with h | h
  · refine .inl fun d hd => ?_
    obtain ⟨x, hx, rfl⟩ := List.mem_map.mp hd
    have h1 := (List.all_eq_true.mp h) x hx
    have h2 := hp x hx
    cases x with
    | tup xs =>
      cases xs with
      | nil => cases h1
      | cons y ys =>
        simp only [D.py, D.pys] at h2
        split at h2
        · split at h2
          · cases h2'' : enc (.tup (y :: ys)) with
            | tuple zs =>
              rw [h2''] at h2
              simp only [Option.map_some] at h2
              cases h2
              exact ⟨_, _, rfl⟩
            | _ => rw [h2''] at h2; simp only [Option.map_some] at h2; cases h2
          · cases h2
        · cases h2
    | _ => cases h1
  · refine .inr fun d hd => ?_
    obtain ⟨x, hx, rfl⟩ := List.mem_map.mp hd
    have h1 := (List.all_eq_true.mp h) x hx
    have h2 := hp x hx
    cases x with
    | non => cases h1
    | tup xs => cases h1
    | bl b => exact ⟨(by intro z; cases z), fun xs z => by cases z⟩
    | int b => exact ⟨(by intro z; cases z), fun xs z => by cases z⟩
    | str b => exact ⟨(by intro z; cases z), fun xs z => by cases z⟩
    | lst xs =>
      simp only [D.py] at h2
      cases e : D.pys xs with
      | none => rw [e] at h2; cases h2
      | some ps =>
        have e2 : enc (.lst xs) = .list ps := by unfold enc; simp only [D.py, e]; rfl
        rw [e2]
        exact ⟨(by intro z; cases z), fun xs z => by cases z⟩
    | _ => simp [D.py] at h2
theorem sorted_tail {σ' : L2.St} {vs : List Value} {ds : List D} {h' : Heap} {tk : Nat} {Q : VK} (I : L2.Inv X pins σ H s) (R : Rel (wd X C) F μ S σ' H) (hu : X.A.units + 66 < cLine) (ok : srtOk ds = true) (k : ∀ b o, s.heap.get? b = some o → h'.get? b = some o) (e : EachIs (RVD (wd X C) F μ) vs ds)
    (p : Post (wd X C) E (OR (wd X C)) (Vi.ret (.w (.lst (srtD ds)))) F μ S σ' H Q) :
    wpAny (model X.prog X.w) X.A.in1 (newList vs >>= fun l => holding [l] (call (.builtin "list.sort") [l] []) >>= fun _ => PySem.ret l) (fun fin s' => ∃ r, fin = PySem.Fin.done (.ret r) ∧ EP X pins σ Q r s') X.xe { s with heap := h', toks := tk } := by
  obtain ⟨⟨ps, hps⟩, hal, hk, hd, hL⟩ := srt_parts ok
  obtain ⟨_, hpy⟩ := pys_at hps
  have I1 : L2.Inv X pins σ H { s with heap := h', toks := tk } := I.kept k
  have hlen : vs.length = ds.length := e.length
  refine wpAny_bind (wpAny_newList ?_ (by rw [hlen]; exact hL))
  have hoL : (h'.push (seqObj "list" vs.toArray 0)).get? h'.objs.size = some (seqObj "list" vs.toArray 0) := Heap.get?_push_size _ rfl
  show wpAny _ _ _ _ _ { s with heap := h'.push (seqObj "list" vs.toArray 0), toks := tk }
  have keep2 : ∀ b o, h'.get? b = some o → (sortingHeap (h'.push (seqObj "list" vs.toArray 0)) h'.objs.size vs).get? b = some o := fun b o q => sortingHeap_old (Nat.ne_of_lt (Heap.lt_size q)) (Heap.get?_push_of_some _ q)
  have er : EachIs (fun v b => ∃ as, Reads (sortingHeap (h'.push (seqObj "list" vs.toArray 0)) h'.objs.size vs) v (enc b) as) vs ds := (each_reads I1 R.sub e hpy).mono fun _ _ ⟨as, r⟩ => ⟨as, PyProof.Rows.Reads.keeps keep2 r⟩
  have halA : AllAlike (ds.map enc) := fun d h1 d' h2 => by
    obtain ⟨x, hx, rfl⟩ := List.mem_map.mp h1
    obtain ⟨y, hy, rfl⟩ := List.mem_map.mp h2
    exact alk_ok (hpy x hx) (hpy y hy) (alkAll_ok hal x hx y hy)
  have bnd : ∀ d, d ∈ ds.map enc → X.A.in1.in1.units + d.depth < cLine := fun d h1 => by
    obtain ⟨x, hx, rfl⟩ := List.mem_map.mp h1
    have h2 := dpt_ok (hpy x hx)
    have h3 := dpts_mem hx
    show X.A.units + 1 + 1 + _ < _
    omega
  have SA := SortsAt.data (prog := X.prog) (w := X.w) (A := X.A.in1.in1) (s := { s with heap := sortingHeap (h'.push (seqObj "list" vs.toArray 0)) h'.objs.size vs, toks := tk }) (each_map (R := fun v d => ∃ as, Reads (sortingHeap (h'.push (seqObj "list" vs.toArray 0)) h'.objs.size vs) v d as) enc er) halA (sortable_of hpy hk) bnd
  have out := sortVals_data false e er halA
  have olen : (sortVals (dataKind (sortingHeap (h'.push (seqObj "list" vs.toArray 0)) h'.objs.size vs) (ds.map enc)) false vs vs).length = vs.length := sortVals_length false rfl
  rw [← srtD_eq hal hps] at out
  have body : wpAny (model X.prog X.w) X.A.in1.in1 (Builtin.«list.sort» ⟨[.ref h'.objs.size], []⟩) (fun fin s' => ∃ v, fin = PySem.Fin.done (.ret v) ∧ wpAny (model X.prog X.w) X.A.in1 (PySem.ret (.ref h'.objs.size)) (fun fin s' => ∃ r, fin = PySem.Fin.done (.ret r) ∧ EP X pins σ Q r s') X.xe s') X.xe
      { s with heap := h'.push (seqObj "list" vs.toArray 0), toks := tk } := by
    refine list_sort_vals (s := { s with heap := h'.push (seqObj "list" vs.toArray 0), toks := tk }) hoL SA (by rw [hlen]; exact hL) ⟨_, rfl, ?_⟩
    obtain ⟨e', he'⟩ := PyProof.Rows.sortedHeap_at (vs := vs) (out := (sortVals (dataKind (sortingHeap (h'.push (seqObj "list" vs.toArray 0)) h'.objs.size vs) (ds.map enc)) false vs vs).toArray) hoL
    obtain ⟨vx, drs, rv⟩ := of_each out
    refine wpAny_pure ⟨_, rfl, .ref h'.objs.size, upd H h'.objs.size (.lst vx), I1.laid (t' := tk) (fun b u e => ?_) (Nat.le_refl _)
      (show ObjOk X.prog X.w _ _ _ (.lst vx) from ⟨by rw [Vals.length rv, olen, hlen]; exact hL, _, e', rv, he'⟩), rfl, Post.newL p R drs (I1.hok.fresh (Nat.le_refl _))⟩
    have hb : b < h'.objs.size := Heap.lt_size e
    rw [PyProof.Rows.sortedHeap_old (Nat.ne_of_lt hb) (by rw [size_push']; exact Nat.lt_succ_of_lt hb)]
    exact Heap.get?_push_of_some _ e
  exact wpAny_bind (wpAny_holding (wpAny_call_entry PyProof.Rows.slot_list_sort ⟨_, hoL, rfl⟩ PyProof.Rows.entry_list_sort body (PyProof.Rows.args_list_sort _)))
theorem vals_of_at : ∀ {xs : List V} {us : List Value}, us.length = xs.length → (∀ (i : Nat) (x : V) (u : Value), xs[i]? = some x → us[i]? = some u → RelV x u) → Vals xs us
  | [], [], _, _ => .nil
  | x :: xs, u :: us, h, k => .cons (k 0 x u rfl rfl) (vals_of_at (by simpa using h) fun i y w h1 h2 => k (i + 1) y w (by simpa using h1) (by simpa using h2))
  | [], _ :: _, h, _ => by simp at h
  | _ :: _, [], h, _ => by simp at h
theorem gathered {W : Wd} {o : Obj} {es : Array DictEntry} {ep : Nat} {kx vx : List V} (r : Raw o es ep kx vx) (h : DRs W F μ ks kx) {acc : Array Value} (a : ItemsOf (fun i v => ∃ hi : i < es.size, v = es[i].key) acc es.size) : EachIs (RVD W F μ) acc.toList ks := by
  refine each_of h (vals_of_at (by rw [Array.length_toList, a.1, r.kl]) fun i x u h1 h2 => ?_)
  obtain ⟨hi, rfl⟩ := a.2 i u (by rw [← Array.getElem?_toList]; exact h2)
  exact r.k i x _ h1 (Array.getElem?_eq_getElem hi)
theorem cr_srt (hcalm : X.calm = true) (hu : X.A.units + 66 < cLine) : CallR X (.builtin "sorted") (rB (wd X C) E kSrt) := by
  intro pins s σ H xs us Q I r ⟨F, μ, S, σ', ds, R, lr, p⟩
  unfold kSrt at p
  split at p
  · rename_i xs'
    obtain ⟨ok, p⟩ := mapp p
    obtain ⟨v, rfl, h⟩ := lr.one
    obtain ⟨a, vs, rfl, s1, r1⟩ := h.lst R.sub
    rw [Vals.ref1 r]
    obtain ⟨its, rv, hl, hz⟩ := I.list (.inl s1)
    refine Calls.call_function_entry PyProof.Rows.kind_sorted PyProof.Rows.plain_sorted PyProof.Rows.entry_sorted (PyProof.Rows.args_sorted1 _) ?_
    unfold Builtin.«sorted»
    refine wpAny_bind (m := checkCount "sorted" 1 1 _) (wpAny_pure ?_)
    refine wpAny_bind (collect_list hl.isList ?_ (by rw [← rv.length]; exact hz))
    exact sorted_tail I R hu ok (fun b o q => (Heap.get?_update_other _ _ (Nat.ne_of_gt (Heap.lt_size q))).trans (Heap.get?_push_of_some _ q)) (each_of r1 rv) p
  · rename_i ks us'
    obtain ⟨ok, p⟩ := mapp p
    obtain ⟨v, rfl, h⟩ := lr.one
    obtain ⟨a, o, es, ep, kx, vx, rfl, hm, hg, rw', r1, r2, hz⟩ := LR.rawE I h R.sub
    rw [Vals.ref1 r]
    refine Calls.call_function_entry PyProof.Rows.kind_sorted PyProof.Rows.plain_sorted PyProof.Rows.entry_sorted (PyProof.Rows.args_sorted1 _) ?_
    unfold Builtin.«sorted»
    refine wpAny_bind (m := checkCount "sorted" 1 1 _) (wpAny_pure ?_)
    refine wpAny_bind (PySem.W.kdu_collect (A := X.A.in1) (PySem.KdlSrc.rawDict (es := es) (ep := ep) hm) (I.ok.hd hcalm) ⟨o, hg, rw'.ex, rw'.dat⟩ hz fun h' tk acc hk hacc => ?_)
    exact sorted_tail I R hu ok hk (gathered rw' r1 hacc) p
  · exact p.elim
end
end Vi
/-! text Vj4 -/
set_option Elab.async false
set_option linter.all false
set_option maxRecDepth 100000
set_option maxHeartbeats 1000000
/-! Vj, part 4: max and min of data. -/
namespace Vi
open PySem PySem.Spec PyProof.Rows L2 PySem.W

def bestD (lt : D → D → Bool) : List D → D
  | [] => .non
  | x :: xs => xs.foldl (fun a y => if lt y a then y else a) x
def gtD (y a : D) : Bool := ltD a y
def bstOk (xs : List D) : Bool := !xs.isEmpty && srtOk xs
def kBst (lt : D → D → Bool) : List D → M O
  | [.lst xs] => if bstOk xs then ret (.v (bestD lt xs)) else fail
  | [.tup xs] => if bstOk xs then ret (.v (bestD lt xs)) else fail
  | [.dct ks _] => if bstOk ks then ret (.v (bestD lt ks)) else fail
  | _ => fail
section
variable {X : Cx} {C : Cc} {E : XK} {pins : List (Addr × Obj)} {σ σ' : L2.St} {H F : Hp} {μ : List Addr} {S : Vi.St} {s : Shared} {ks us xs : List D} {v : V}
/-- the i-th item -/
def PAt (W : Wd) (F : Hp) (μ : List Addr) (ds : List D) (i : Nat) (u : Value) : Prop := ∃ d, ds[i]? = some d ∧ RVD W F μ u d
theorem cmpD (I : L2.Inv X pins σ H s) (hs : Sub F H) {A : Around} {ds : List D} (ok : srtOk ds = true) (hu : A.units + 60 < cLine) {P : Nat → Value → Prop} (hP : ∀ i u, P i u → PAt (wd X C) F μ ds i u) :
    CmpIn X.prog X.w A .Lt s.heap P (fun i j => ltD (ds.getD i .non) (ds.getD j .non)) ∧ CmpIn X.prog X.w A .Gt s.heap P (fun i j => gtD (ds.getD i .non) (ds.getD j .non)) := by
  obtain ⟨⟨ps, hps⟩, hal, hk, hd, _⟩ := srt_parts ok
  obtain ⟨_, hpy⟩ := pys_at hps
  have nn : ∀ d ∈ ds, enc d ≠ .none := fun d hd => by
    rcases sortable_of hpy hk with h | h
    · obtain ⟨x, r, e⟩ := h _ (List.mem_map.mpr ⟨d, hd, rfl⟩)
      rw [e]; intro z; cases z
    · exact (h _ (List.mem_map.mpr ⟨d, hd, rfl⟩)).1
  have dep : ∀ d ∈ ds, (enc d).depth ≤ 60 := fun d hd => by
    have h2 := dpt_ok (hpy d hd)
    have h3 := dpts_mem hd
    omega
  constructor
  · intro i j vi vj s' Q E hk hi hj hq
    obtain ⟨d1, e1, r1⟩ := hP i vi hi
    obtain ⟨d2, e2, r2⟩ := hP j vj hj
    have m1 := List.mem_of_getElem? e1
    have m2 := List.mem_of_getElem? e2
    obtain ⟨as1, q1⟩ := r1.reads I hs (hpy _ m1)
    obtain ⟨as2, q2⟩ := r2.reads I hs (hpy _ m2)
    have a1 := alkAll_ok hal d1 m1 d2 m2
    refine rcLt_alike _ _ A s' vi vj _ _ (reads_keeps hk q1) (reads_keeps hk q2) (alk_ok (hpy _ m1) (hpy _ m2) a1) (nn _ m1) ?_ X.prog X.w E Q ?_
    · have := dep _ m1
      have := Nat.min_le_left (enc d1).depth (enc d2).depth
      omega
    · rw [lt_ok (hpy _ m1) (hpy _ m2) a1]
      simp only [List.getD_eq_getElem?_getD, e1, e2, Option.getD_some] at hq
      exact hq
  · intro i j vi vj s' Q E hk hi hj hq
    obtain ⟨d1, e1, r1⟩ := hP i vi hi
    obtain ⟨d2, e2, r2⟩ := hP j vj hj
    have m1 := List.mem_of_getElem? e1
    have m2 := List.mem_of_getElem? e2
    obtain ⟨as1, q1⟩ := r1.reads I hs (hpy _ m1)
    obtain ⟨as2, q2⟩ := r2.reads I hs (hpy _ m2)
    have a1 := alkAll_ok hal d1 m1 d2 m2
    have a2 := alkAll_ok hal d2 m2 d1 m1
    refine rcGt_alike _ _ A s' vi vj _ _ (reads_keeps hk q1) (reads_keeps hk q2) (alk_ok (hpy _ m1) (hpy _ m2) a1) (nn _ m1) ?_ X.prog X.w E Q ?_
    · have := dep _ m1
      have := Nat.min_le_left (enc d1).depth (enc d2).depth
      omega
    · rw [lt_ok (hpy _ m2) (hpy _ m1) a2]
      simp only [List.getD_eq_getElem?_getD, e1, e2, Option.getD_some, gtD] at hq
      exact hq
theorem best_at {W : Wd} {lt : D → D → Bool} {ds : List D} (hn : 0 < ds.length) {u : Value} {P : Nat → Value → Prop} (hP : ∀ i u, P i u → PAt W F μ ds i u) {n : Nat} (en : n = ds.length)
    (h : P (argBest (fun i j => lt (ds.getD i .non) (ds.getD j .non)) (n - 1)) u) : RVD W F μ u (bestD lt ds) := by
  cases ds with
  | nil => cases hn
  | cons x xs =>
    obtain ⟨d, e1, r⟩ := hP _ _ h
    have e2 := (argBest_fold lt D.non x xs xs.length (Nat.le_refl _)).2
    rw [List.take_length] at e2
    have e3 : n - 1 = xs.length := by rw [en]; rfl
    rw [e3] at e1
    rw [List.getD_eq_getElem?_getD, e1, Option.getD_some] at e2
    show RVD W F μ u (xs.foldl _ x)
    rw [← e2]
    exact r
theorem bst_pos {ds : List D} (ok : bstOk ds = true) : 0 < ds.length ∧ srtOk ds = true := by
  unfold bstOk at ok
  simp only [Bool.and_eq_true, Bool.not_eq_true'] at ok
  refine ⟨?_, ok.2⟩
  cases ds with
  | nil => exact nomatch ok.1
  | cons _ _ => exact Nat.zero_lt_succ _
theorem pat_of {W : Wd} : ∀ {ds : List D} {vs : List V} {us : List Value}, DRs W F μ ds vs → Vals vs us → ∀ i u, us[i]? = some u → PAt W F μ ds i u
  | _, _, _, .nil, .nil, i, u, h => by simp at h
  | _, _, _, .cons a t, .cons r w, 0, u, h => by cases h; exact ⟨_, rfl, _, r, a⟩
  | _, _, _, .cons a t, .cons r w, i + 1, u, h => by
    obtain ⟨d, e, q⟩ := pat_of t w i u (by simpa using h)
    exact ⟨d, by simpa using e, q⟩
theorem cr_bst {op : String} {lt : D → D → Bool} (hcalm : X.calm = true) (hu : X.A.units + 66 < cLine)
    (hop : (op = "max" ∧ lt = gtD) ∨ (op = "min" ∧ lt = ltD)) : CallR X (.builtin op) (rB (wd X C) E (kBst lt)) := by
  have tail : ∀ {pins s σ H} {Q : VK} {x : Value} {F μ S σ'} {ds : List D} (I : L2.Inv X pins σ H s) (R : Rel (wd X C) F μ S σ' H) (ok : bstOk ds = true) (p : Post (wd X C) E (OR (wd X C)) (Vi.ret (.v (bestD lt ds))) F μ S σ' H Q),
      (∀ (Q' : Value → Shared → Prop), (∀ (I' : Addr) (fp : List Addr) (P : Nat → Value → Prop) (St : Nat → Shared → Prop) (s₂ : Shared) (o : Obj), s₂ = { s with heap := s.heap.push o } → WalksS X.prog X.w X.A.in1 I' fp [I'] (fun a b => b = a) ds.length P St → I' = s.heap.objs.size → St 0 s₂ → (∀ b ∈ fp, b < s₂.heap.objs.size) → (∀ i u, P i u → PAt (wd X C) F μ ds i u) → Q' (.ref I') s₂) → wpAny (model X.prog X.w) X.A.in1 (pyIter x) Q' X.xe s) →
      wpAny (model X.prog X.w) X.A (call (.builtin op) [x]) (EP X pins σ Q) X.xe s := by
    intro pins s σ H Q x F μ S σ' ds I R ok p it
    obtain ⟨hn, ok2⟩ := bst_pos ok
    have fin : ∀ {s₂ : Shared} {o : Obj} {I' : Addr} {P : Nat → Value → Prop} {v : Value} {s' : Shared} {bt : Nat → Nat → Bool}, s₂ = { s with heap := s.heap.push o } → I' = s.heap.objs.size → (∀ i u, P i u → PAt (wd X C) F μ ds i u) → bt = (fun i j => lt (ds.getD i .non) (ds.getD j .non)) → P (argBest bt (ds.length - 1)) v → Moved [I'] (fun a b => b = a) s₂ s' → EP X pins σ Q v s' := by
      intro s₂ o I' P v s' bt e1 e2 e3 e4 e5 m
      subst e4
      obtain ⟨h', tk, rfl, hk'⟩ := moved_old e1 e2 m
      obtain ⟨y, r, a⟩ := best_at hn e3 rfl e5
      exact ⟨y, H, I.kept hk', r, Post.retV p R a⟩
    rcases hop with ⟨rfl, rfl⟩ | ⟨rfl, rfl⟩
    · refine call_max_walkH (it _ fun I' fp P St s₂ o e1 W e2 st hfp hP => ?_)
      refine ⟨I', fp, [I'], _, _, P, St, s.heap, _, rfl, W, st, hfp, hn, fun b o e hb => ?_, fun b o e => by rw [e1]; exact Heap.get?_push_of_some _ e, (cmpD I R.sub ok2 (by show X.A.units + 1 + _ < _; omega) hP).2, fun v s' h1 h2 => fin e1 e2 hP rfl h1 h2⟩
      rw [List.mem_singleton.mp hb, e2] at e
      exact Nat.lt_irrefl _ (Heap.lt_size e)
    · refine call_min_walkH (it _ fun I' fp P St s₂ o e1 W e2 st hfp hP => ?_)
      refine ⟨I', fp, [I'], _, _, P, St, s.heap, _, rfl, W, st, hfp, hn, fun b o e hb => ?_, fun b o e => by rw [e1]; exact Heap.get?_push_of_some _ e, (cmpD I R.sub ok2 (by show X.A.units + 1 + _ < _; omega) hP).1, fun v s' h1 h2 => fin e1 e2 hP rfl h1 h2⟩
      rw [List.mem_singleton.mp hb, e2] at e
      exact Nat.lt_irrefl _ (Heap.lt_size e)
  intro pins s σ H xs us Q I r ⟨F, μ, S, σ', ds, R, lr, p⟩
  have hh : X.A.in1.handled = none := I.ok.hd hcalm
  unfold kBst at p
  split at p
  · obtain ⟨ok, p⟩ := mapp p
    obtain ⟨v, rfl, h⟩ := lr.one
    obtain ⟨a, vs, rfl, s1, r1⟩ := h.lst R.sub
    rw [Vals.ref1 r]
    obtain ⟨its, rv, hl, hz⟩ := I.list (.inl s1)
    refine tail I R ok p fun Q' k => ?_
    refine iter_listW hh hl.isList fun s₂ e W st hfp hw hk => ?_
    have el := (List.size_toArray (as := its)).trans (rv.length.symm.trans r1.length.symm)
    have W := Eq.mp (congrArg (fun n => WalksS X.prog X.w X.A.in1 s.heap.objs.size _ _ (fun a b => b = a) n _ _) el) W
    exact k _ _ _ _ s₂ _ e W rfl st hfp (fun i u hu => pat_of r1 rv i u (by simpa using hu))
  · obtain ⟨ok, p⟩ := mapp p
    obtain ⟨v, rfl, h⟩ := lr.one
    obtain ⟨a, vs, rfl, s1, _, r1⟩ := h.tup R.sub
    rw [Vals.ref1 r]
    obtain ⟨its, rv, hl, hz⟩ := I.tuple s1
    refine tail I R ok p fun Q' k => ?_
    refine iter_tupleW hh hl fun s₂ e W st hfp hw hk => ?_
    have el := (List.size_toArray (as := its)).trans (rv.length.symm.trans r1.length.symm)
    have W := Eq.mp (congrArg (fun n => WalksS X.prog X.w X.A.in1 s.heap.objs.size _ _ (fun a b => b = a) n _ _) el) W
    exact k _ _ _ _ s₂ _ e W rfl st hfp (fun i u hu => pat_of r1 rv i u (by simpa using hu))
  · obtain ⟨ok, p⟩ := mapp p
    obtain ⟨v, rfl, h⟩ := lr.one
    obtain ⟨a, o, es, ep, kx, vx, rfl, hm, hg, rw', r1, r2, hz⟩ := LR.rawE I h R.sub
    rw [Vals.ref1 r]
    refine tail I R ok p fun Q' k => ?_
    have hdr : s.heap.DictRaw a es ep := ⟨o, hg, rw'.ex, rw'.dat⟩
    refine wpAny_pyIter_dict_raw hm hdr ?_
    have W := (PySem.Walks.rawKeys (prog := X.prog) (w := X.w) hh s.heap.objs.size a (Nat.ne_of_lt hdr.lt_size) es ep).toS
    have el := rw'.kl.symm.trans r1.length.symm
    have W := Eq.mp (congrArg (fun n => WalksS X.prog X.w X.A.in1 s.heap.objs.size _ _ (fun a b => b = a) n _ _) el) W
    refine k _ _ _ _ _ _ rfl W rfl ⟨⟨_, Heap.get?_push_size _ rfl, rfl, rfl⟩, hdr.push _⟩ (fun b hb => ?_) (fun i u ⟨hi, e⟩ => ?_)
    · show b < (s.heap.push _).objs.size
      rw [Heap.size_push]
      rcases List.mem_cons.mp hb with rfl | hb
      · exact Nat.lt_succ_self _
      · rw [List.mem_singleton.mp hb]; exact Nat.lt_succ_of_lt hdr.lt_size
    · subst e
      exact pat_of r1 (vals_of_at (us := es.toList.map (·.key)) (by rw [List.length_map, rw'.kl]; rfl) fun i x u h1 h2 => by
        rw [List.getElem?_map] at h2
        cases e3 : es.toList[i]? with
        | none => rw [e3] at h2; cases h2
        | some z => rw [e3] at h2; cases h2; exact rw'.k i x z h1 (by rw [← Array.getElem?_toList]; exact e3)) i _ (by rw [List.getElem?_map, Array.getElem?_toList, Array.getElem?_eq_getElem hi]; rfl)
  · exact p.elim
end
end Vi
/-! text Vj5 -/
set_option Elab.async false
set_option linter.all false
set_option maxRecDepth 100000
set_option maxHeartbeats 1000000
/-! Vj, part 5: dict(pairs). -/
namespace Vi
open PySem PySem.Spec PyProof.Rows L2 PySem.W

def prsOf : List D → Option (List (D × D))
  | [] => some []
  | .tup [k, d] :: r => (match prsOf r with
    | some ps => some ((k, d) :: ps)
    | none => none)
  | _ => none
def putP : List (D × D) → List D × List D → List D × List D
  | [], acc => acc
  | (k, d) :: r, acc => putP r (Vi.put acc.1 acc.2 k d)
def nkOk (k : D) : Bool := isTup k && (match k.nk with
  | some key => decide (key.depth ≤ 8)
  | none => false)
def prsOk (ps : List (D × D)) : Bool := (ps.all fun p => p.1.key.isSome) || (ps.all fun p => nkOk p.1)
def kDct : List D → M O
  | [.lst xs] => (match prsOf xs with
    | some ps => if prsOk ps && decide (xs.length ≤ line) then ret (.w (.dct (putP ps ([], [])).1 (putP ps ([], [])).2)) else fail
    | none => fail)
  | _ => fail
theorem nd_put' {κ : Type} [DecidableEq κ] {kvs : List (κ × V)} (k : κ) (v : V) (hn : (kvs.map (·.1)).Nodup) : ((putK kvs k v).map (·.1)).Nodup := by
  cases e : valV kvs k with
  | none => exact nd_putK v hn e
  | some u =>
    have h : (kvs.any fun kv => decide (kv.1 = k)) = true := by rw [valV_any, e]; rfl
    unfold putK
    rw [if_pos h, List.map_map]
    have : (kvs.map ((fun x => x.1) ∘ fun kv => if kv.1 = k then (kv.1, v) else kv)) = kvs.map (·.1) := by
      refine List.map_congr_left fun x _ => ?_
      show (if x.1 = k then (x.1, v) else x).1 = x.1
      split <;> rfl
    rw [this]; exact hn
theorem nd_storedH {xs : NX} (k : NestedKey) (a : Addr) (v : Value) (hn : (xs.map (·.1)).Nodup) : ((storedH xs k a v).map (·.1)).Nodup := by
  unfold storedH
  split
  · have : (xs.map (putAt k v)).map (·.1) = xs.map (·.1) := by
      rw [List.map_map]
      refine List.map_congr_left fun x _ => ?_
      show (putAt k v x).1 = x.1
      unfold putAt
      split <;> rfl
    rw [this]; exact hn
  · rename_i h
    rw [List.map_append]
    refine nd_snoc hn fun m => h ?_
    obtain ⟨x, hx, e⟩ := List.mem_map.mp m
    unfold atKey
    rw [Option.isSome_map, List.find?_isSome]
    exact ⟨x, hx, decide_eq_true e⟩
section
variable {X : Cx} {C : Cc} {E : XK} {pins : List (Addr × Obj)} {σ σ' : L2.St} {H F : Hp} {μ : List Addr} {S : Vi.St} {s : Shared} {ks us xs : List D} {v : V}
inductive PR2 (W : Wd) (F : Hp) (μ : List Addr) : List (D × D) → List (Key × V) → Prop
  | nil : PR2 W F μ [] []
  | cons {k d : D} {ps : List (D × D)} {key : Key} {v : V} {as : List (Key × V)} : k.key = some key → DR W F μ d v → PR2 W F μ ps as → PR2 W F μ ((k, d) :: ps) ((key, v) :: as)
theorem drk_merge : ∀ {ps : List (D × D)} {as : List (Key × V)} {ks us : List D} {kvs : List (Key × V)}, PR2 (wd X C) F μ ps as → DRk (wd X C) F μ ks us kvs → (kvs.map (·.1)).Nodup → DRk (wd X C) F μ (putP ps (ks, us)).1 (putP ps (ks, us)).2 (mergeK kvs as) ∧ ((mergeK kvs as).map (·.1)).Nodup
  | _, _, _, _, _, .nil, r, n => ⟨r, n⟩
  | _, _, _, _, _, .cons (v := v) hk a t, r, n => by
    have h := drk_merge t (DRk.put (X := X) hk a r n) (nd_put' _ v n)
    exact h
inductive PRn (W : Wd) (F : Hp) (μ : List Addr) : List (D × D) → NX → Prop
  | nil : PRn W F μ [] []
  | cons {k d : D} {ps : List (D × D)} {key : NestedKey} {b : Addr} {v : V} {u : Value} {as : NX} : k.nk = some key → key.depth ≤ 8 → DR W F μ k (.ref b) → RelV v u → DR W F μ d v → PRn W F μ ps as → PRn W F μ ((k, d) :: ps) ((key, b, u) :: as)
theorem drn_merge : ∀ {ps : List (D × D)} {as : NX} {ks us : List D} {xs : NX}, PRn (wd X C) F μ ps as → DRn (wd X C) F μ ks us xs → (xs.map (·.1)).Nodup → DRn (wd X C) F μ (putP ps (ks, us)).1 (putP ps (ks, us)).2 (storedAllH xs as) ∧ ((storedAllH xs as).map (·.1)).Nodup
  | _, _, _, _, _, .nil, r, n => ⟨r, n⟩
  | _, _, _, _, _, .cons hk _ b rv a t, r, n => by
    have h := drn_merge t (DRn.put (X := X) hk b rv a r n) (nd_storedH _ _ _ n)
    exact h
/-- the pairs as they lie -/
inductive PIt (h : Heap) : List V → List (Value × Value) → Prop
  | nil : PIt h [] []
  | cons {a : Addr} {k v : Value} {vs : List V} {ps : List (Value × Value)} : PairAt h a k v → PIt h vs ps → PIt h (.ref a :: vs) ((k, v) :: ps)
def refAt (vs : List V) (j : Nat) : Addr := match vs[j]? with
  | some (.ref a) => a
  | _ => 0
theorem PIt.items {h : Heap} : ∀ {vs : List V} {ps : List (Value × Value)} {its : List Value}, PIt h vs ps → Vals vs its → its.length = ps.length ∧ ∀ j k v, ps[j]? = some (k, v) → its[j]? = some (.ref (refAt vs j)) ∧ PairAt h (refAt vs j) k v
  | _, _, _, .nil, .nil => ⟨rfl, fun j k v e => by simp at e⟩
  | _, _, _, .cons p t, .cons r w => by
    obtain ⟨h1, h2⟩ := PIt.items t w
    cases r
    refine ⟨by simp [h1], fun j k v e => ?_⟩
    cases j with
    | zero => cases e; exact ⟨rfl, p⟩
    | succ j => exact h2 j k v (by simpa using e)
theorem PIt.pairs {h : Heap} {vs : List V} {ps : List (Value × Value)} {its : List Value} (p : PIt h vs ps) (r : Vals vs its) : PairItems h its.toArray (refAt vs) ps := by
  obtain ⟨h1, h2⟩ := p.items r
  exact ⟨by simpa using h1, fun j k v e => ⟨by simpa using (h2 j k v e).1, (h2 j k v e).2⟩⟩
theorem carries_at {P : Program} {w : World} {knd : KeyKind P w Key} : ∀ {ps : List (Value × Value)} {bs : List (Key × Value)}, Carries knd ps bs → bs.length = ps.length ∧ ∀ (i : Nat) (key v : Value), ps[i]? = some (key, v) → ∃ k, bs[i]? = some (k, v) ∧ knd.is k key = true
  | [], [], _ => ⟨rfl, fun i k v e => by simp at e⟩
  | (key, v) :: ps, (k, v') :: bs, c => by
    obtain ⟨c1, rfl, c2⟩ := c
    obtain ⟨h1, h2⟩ := carries_at c2
    refine ⟨by simp [h1], fun i key v e => ?_⟩
    cases i with
    | zero => cases e; exact ⟨k, rfl, c1⟩
    | succ i => simpa using h2 i key v (by simpa using e)
  | [], _ :: _, c => c.elim
  | _ :: _, [], c => c.elim
theorem prn_at {W : Wd} : ∀ {prs : List (D × D)} {as : NX}, PRn W F μ prs as → ∀ (i : Nat) (key v : Value), (as.map fun x => (Value.ref x.2.1, x.2.2))[i]? = some (key, v) → ∃ k b, as[i]? = some (k, b, v) ∧ key = .ref b
  | _, _, .nil, i, key, v, e => by simp at e
  | _, _, .cons _ _ _ _ _ t, i, key, v, e => by
    cases i with
    | zero => cases e; exact ⟨_, _, rfl, rfl⟩
    | succ i => simpa using prn_at t i key v (by simpa using e)
theorem pair_at (I : L2.Inv X pins σ H s) (hs : Sub F H) {k d : D} {v : V} (h : DR (wd X C) F μ (.tup [k, d]) v) : ∃ a y z u r, v = .ref a ∧ DR (wd X C) F μ k y ∧ DR (wd X C) F μ d z ∧ RelV y u ∧ RelV z r ∧ PairAt s.heap a u r := by
  cases h with
  | tup h1 h2 =>
    cases h2 with
    | cons ra t => cases t with
      | cons rb t => cases t with
        | nil =>
          obtain ⟨its, rv, ht, _⟩ := I.tuple (hs.t h1)
          cases rv with
          | cons r1 w => cases w with
            | cons r2 w => cases w with
              | nil => exact ⟨_, _, _, _, _, rfl, ra, rb, r1, r2, .inl ht⟩
theorem gatherK (I : L2.Inv X pins σ H s) (hs : Sub F H) : ∀ {xs : List D} {vs : List V} {prs : List (D × D)}, prsOf xs = some prs → DRs (wd X C) F μ xs vs → (prs.all fun p => p.1.key.isSome) = true → ∃ as ps, PR2 (wd X C) F μ prs as ∧ VV (as.map fun kv => (kV kv.1, kv.2)) ps ∧ PIt s.heap vs ps
  | [], _, prs, e, .nil, _ => by cases e; exact ⟨[], [], .nil, .nil, .nil⟩
  | x :: r, _, prs, e, .cons a t, h => by
    unfold prsOf at e
    split at e
    · rename_i h0
      cases h0
    · rename_i k d r' h0
      cases h0
      split at e
      · rename_i ps e1
        cases e
        rw [List.all_cons, Bool.and_eq_true] at h
        obtain ⟨as, qs, g1, g2, g3⟩ := gatherK I hs e1 t h.2
        obtain ⟨b, y, z, u, r, rfl, ry, rz, ru, rr, hp⟩ := pair_at I hs a
        cases hk : k.key with
        | none => rw [hk] at h; exact nomatch h.1
        | some key =>
          have ei : y = kV key := by cases k <;> cases hk <;> cases ry <;> rfl
          subst ei
          exact ⟨(key, z) :: as, (u, r) :: qs, .cons hk rz g1, .cons ⟨ru, rr⟩ g2, .cons hp g3⟩
      · cases e
    · cases e
theorem gatherN (I : L2.Inv X pins σ H s) (hs : Sub F H) : ∀ {xs : List D} {vs : List V} {prs : List (D × D)}, prsOf xs = some prs → DRs (wd X C) F μ xs vs → (prs.all fun p => nkOk p.1) = true → ∃ as : NX, PRn (wd X C) F μ prs as ∧ PIt s.heap vs (as.map fun x => (Value.ref x.2.1, x.2.2))
  | [], _, prs, e, .nil, _ => by cases e; exact ⟨[], .nil, .nil⟩
  | x :: r, _, prs, e, .cons a t, h => by
    unfold prsOf at e
    split at e
    · rename_i h0
      cases h0
    · rename_i k d r' h0
      cases h0
      split at e
      · rename_i ps e1
        cases e
        rw [List.all_cons, Bool.and_eq_true] at h
        obtain ⟨as, g1, g3⟩ := gatherN I hs e1 t h.2
        obtain ⟨b, y, z, u, r, rfl, ry, rz, ru, rr, hp⟩ := pair_at I hs a
        have h1 := h.1
        unfold nkOk at h1
        rw [Bool.and_eq_true] at h1
        cases hk : k.nk with
        | none => rw [hk] at h1; exact nomatch h1.2
        | some key =>
          rw [hk] at h1
          have hd := of_decide_eq_true h1.2
          obtain ⟨q, rfl⟩ : ∃ q, y = .ref q := by cases k with
            | tup _ => cases ry; exact ⟨_, rfl⟩
            | _ => exact absurd h1.1 (by simp [isTup])
          cases ru
          exact ⟨(key, q, r) :: as, .cons hk hd ry rr rz g1, .cons hp g3⟩
      · cases e
    · cases e
theorem prn_keys (I : L2.Inv X pins σ H s) (hs : Sub F H) : ∀ {prs : List (D × D)} {as : NX}, PRn (wd X C) F μ prs as → ∀ x ∈ as, (nestedKind X.prog X.w).is s.heap x.1 x.2.1
  | _, _, .nil, x, hx => nomatch hx
  | _, _, .cons hk hd b _ _ t, x, hx => by
    rcases List.mem_cons.mp hx with rfl | hx
    · exact ⟨DR.isKey I hs b rfl hk, hd⟩
    · exact prn_keys I hs t x hx
theorem prn_len {W : Wd} : ∀ {prs : List (D × D)} {as : NX}, PRn W F μ prs as → as.length = prs.length
  | _, _, .nil => rfl
  | _, _, .cons _ _ _ _ _ t => by simp [prn_len t]
theorem prs_len : ∀ {xs : List D} {prs : List (D × D)}, prsOf xs = some prs → prs.length = xs.length
  | [], _, e => by cases e; rfl
  | x :: r, _, e => by
    unfold prsOf at e
    split at e
    · rename_i h0; cases h0
    · rename_i h0
      cases h0
      split at e
      · rename_i e1; cases e; simp [prs_len e1]
      · cases e
    · cases e
theorem pr2_len {W : Wd} : ∀ {prs : List (D × D)} {as : List (Key × V)}, PR2 W F μ prs as → as.length = prs.length
  | _, _, .nil => rfl
  | _, _, .cons _ _ t => by simp [pr2_len t]
theorem prn_depth {W : Wd} : ∀ {prs : List (D × D)} {as xs : NX}, PRn W F μ prs as → (∀ x ∈ xs, x.1.depth ≤ 8) → ∀ x ∈ storedAllH xs as, x.1.depth ≤ 8
  | _, _, xs, .nil, h => h
  | _, _, xs, .cons (key := key) (b := b) (u := u) _ hd _ _ _ t, h => prn_depth (xs := storedH xs key b u) t fun x hx => by
    unfold storedH at hx
    split at hx
    · obtain ⟨y, hy, rfl⟩ := List.mem_map.mp hx
      unfold putAt
      split <;> exact h y hy
    · rcases List.mem_append.mp hx with hx | hx
      · exact h x hx
      · obtain rfl := List.mem_singleton.mp hx; exact hd
theorem cr_dct (hcalm : X.calm = true) (hu : X.A.units + 66 < cLine) : CallR X (.type "dict") (rB (wd X C) E kDct) := by
  intro pins s σ H xs us Q I r ⟨F, μ, S, σ', ds, R, lr, p⟩
  unfold kDct at p
  split at p
  · split at p
    · rename_i xs' prs e1
      obtain ⟨ok, p⟩ := mapp p
      rw [Bool.and_eq_true, decide_eq_true_eq, line_eq] at ok
      obtain ⟨v, rfl, h⟩ := lr.one
      obtain ⟨a, vs, rfl, s1, r1⟩ := h.lst R.sub
      rw [Vals.ref1 r]
      obtain ⟨its, rv, hl, hz⟩ := I.list (.inl s1)
      have hh : X.A.handled = none := I.ok.hd hcalm
      have hseq : PlainSeq "list" s.heap a its.toArray := hl
      have lp := prs_len e1
      have hm : (s.heap.objs.size == sysModules) = false := beq_eq_false_iff_ne.mpr (Nat.ne_of_gt I.big)
      have nw := I.hok.fresh (Nat.le_refl s.heap.objs.size)
      rcases Bool.or_eq_true_iff.mp ok.1 with hk | hk
      · obtain ⟨as, ps, g1, g2, g3⟩ := gatherK I R.sub e1 r1 hk
        obtain ⟨bs, cb, kv⟩ := carries_of (P := X.prog) (w := X.w) g2
        obtain ⟨b1, b2⟩ := carries_at cb
        have pl := g3.pairs rv
        have la := pr2_len g1
        have ln : ps.length = as.length := b1.symm.trans (Paired.length kv).symm
        refine call_dict_pairs (PairArg.list a its.toArray (refAt vs) ps) hh ⟨hseq, pl⟩ ⟨b1, b2⟩ (by omega) fun h' tk dd hs => ?_
        have m1 := drk_merge (X := X) g1 (.nil) List.nodup_nil
        have hz : (mergeK [] as).length ≤ sizeLine := by
          have h1 := length_mergeK as []
          rw [List.length_nil] at h1
          omega
        refine ⟨.ref _, upd H s.heap.objs.size (.dK (mergeK [] as)), I.laid (t' := tk) (fun b u e => hs b u List.not_mem_nil e) (Nat.le_refl _) (dk_new hz hm (kv.merge .nil) dd), rfl, ?_⟩
        refine p F μ _ _ (Step.new R nw) (Ne.refl S) ⟨_, rfl, .inl ⟨_, upd_same, m1.1⟩, fun z => R.muTrk z nw, R.noF nw, fun z => R.ownTrk z nw, nw⟩
      · obtain ⟨as, g1, g3⟩ := gatherN I R.sub e1 r1 hk
        have pl := g3.pairs rv
        have la := prn_len g1
        refine call_dict_pairsH (knd := nestedKind X.prog X.w) (ps := as) (PairArg.list a its.toArray (refAt vs) _) hh (by show X.A.units + 1 + 1 + 8 < cLine; omega) ⟨hseq, pl⟩ ⟨by rw [List.length_map], prn_at g1⟩ (fun h' hk x hx => ?_) (by rw [List.length_map]; omega) fun h' tk dd hs => ?_
        · have I1 : L2.Inv X pins σ H { s with heap := h', toks := s.toks } := I.kept fun b o e => hk b o (Nat.ne_of_lt (Heap.lt_size e)) List.not_mem_nil e
          exact prn_keys I1 R.sub g1 x hx
        have m1 := drn_merge (X := X) g1 (.nil) List.nodup_nil
        have hz : (storedAllH [] as).length ≤ sizeLine := by
          have h1 := storedAllH_length as []
          rw [List.length_nil] at h1
          omega
        refine ⟨.ref _, upd H s.heap.objs.size (ND X.prog X.w s.heap.objs.size (storedAllH [] as)), I.laid (t' := tk) (fun b u e => hs b u List.not_mem_nil e) (Nat.le_refl _) (nd_new hz hm (prn_depth g1 fun x hx => nomatch hx) dd), rfl, ?_⟩
        refine p F μ _ _ (Step.new R nw) (Ne.refl S) ⟨_, rfl, .inr ⟨_, upd_same, m1.1⟩, fun z => R.muTrk z nw, R.noF nw, fun z => R.ownTrk z nw, nw⟩
    · exact p.elim
  · exact p.elim
end
end Vi
/-! text Vj6 -/
set_option Elab.async false
set_option linter.all false
set_option maxRecDepth 100000
set_option maxHeartbeats 1000000
/-! Vj, part 6: xs[lo:hi:-1]. -/
namespace Vi
open PySem PySem.Spec PyProof.Rows L2

def pickL {α : Type} (xs : List α) (lo hi : Option Int) : List α := (sliceRange (sliceBounds lo hi (some (-1)) xs.length).1 (sliceBounds lo hi (some (-1)) xs.length).2.1 (sliceBounds lo hi (some (-1)) xs.length).2.2).filterMap (xs[·]?)
def sliceR (lo hi : Option Int) (d : D) : M O := match d with
  | .lst xs => if (pickL xs lo hi).length ≤ line then ret (.w (.lst (pickL xs lo hi))) else fail
  | _ => fail
def mSlr (ma : M O) (ml mh : M (Option Int)) : M O := bind ma fun o => bind ml fun l => bind mh fun h => bind (rdh o) fun d => sliceR l h d
section
variable {X : Cx} {C : Cc} {E : XK} {e a b c : Expr} {m ma mb mc : M O} {pos p2 : Pos} {F : Hp} {μ : List Addr}
theorem drs_pick {W : Wd} {xs : List D} {vs : List V} (r : DRs W F μ xs vs) : ∀ l : List Nat, DRs W F μ (l.filterMap (xs[·]?)) (l.filterMap (vs[·]?))
  | [] => .nil
  | i :: l => by
    have t := drs_pick r l
    rw [List.filterMap_cons, List.filterMap_cons]
    cases e : xs[i]? with
    | none =>
      have e2 : vs[i]? = none := by rw [List.getElem?_eq_none_iff] at e ⊢; rw [← r.length]; exact e
      rw [e2]; exact t
    | some d =>
      obtain ⟨v, k1, k2⟩ := r.get e
      rw [k1]; exact .cons k2 t
theorem vals_pick {vs : List V} {us : List Value} (r : Vals vs us) : ∀ l : List Nat, Vals (l.filterMap (vs[·]?)) (l.filterMap (us[·]?))
  | [] => .nil
  | i :: l => by
    have t := vals_pick r l
    rw [List.filterMap_cons, List.filterMap_cons]
    cases e : vs[i]? with
    | none =>
      have e2 : us[i]? = none := by rw [List.getElem?_eq_none_iff] at e ⊢; rw [← r.length]; exact e
      rw [e2]; exact t
    | some d =>
      obtain ⟨v, k1, k2⟩ := L2.paired_get r e
      rw [k1]; exact .cons k2 t
theorem pe_sliR {k : Nat} {p1 p3 : Pos} {lo hi : Option Expr} {te : TE} {tl th : TO} (he : PE X e te) (hl : PO X lo tl) (hu : PO X hi th) :
    PE X (.Subscript e (.Slice lo hi (some (.UnaryOp .USub (.Constant (.int 1) k p1) p2)) p3) pos) fun σ H Q => te σ H fun x H1 => tl σ H1 fun l H2 => th σ H2 fun u H3 => ∃ a xs, x = .ref a ∧ SqL X.K H3 a xs ∧ (pickL xs l u).length ≤ sizeLine ∧ ∀ p, H3 p = none → Q (.ref p) (upd H3 p (.lst (pickL xs l u))) := by
  refine ⟨fun pins s σ H Q I h => ?_⟩
  refine Subscript_ (thn (he.run pins s σ H _ I h) fun v s1 ⟨x, H1, I1, r1, q1⟩ => ?_)
  have hst : PO X (some (.UnaryOp .USub (.Constant (.int 1) k p1) p2)) (tPart (tUn (rU fun i => .int (-i)) (tC (.int 1)))) := po_some (pe_un un_neg pe_int)
  refine wpAny_Slice (thn (hl.run pins s1 σ H1 _ I1 q1) fun vl s2 ⟨l, H2, I2, pl, q2⟩ => thn (hu.run pins s2 σ H2 _ I2 q2) fun vu s3 ⟨u, H3, I3, pu, q3⟩ => ?_)
  obtain ⟨a, xs, ex, hx, hpl, q⟩ := q3
  subst ex
  cases r1
  refine thn (hst.run pins s3 σ H3 (fun o H4 => o = some (-1) ∧ H4 = H3) I3 ⟨1, rfl, -1, rfl, rfl, rfl⟩) fun vs s4 ⟨o, H4, I4, ps, eo, e4⟩ => ?_
  subst eo e4
  have I5 : L2.Inv X pins σ H4 { s4 with heap := s4.heap.push { cls := .type "slice", data := .fields #[vl, vu, vs] } } := I4.kept (t' := s4.toks) fun b ob q => Heap.get?_push_of_some _ q
  obtain ⟨its, r, ht, hz⟩ := I5.list hx
  have hlen := r.length
  show wpAny (model X.prog X.w) X.A (subscriptTail e (.Slice lo hi (some (.UnaryOp .USub (.Constant (.int 1) k p1) p2)) p3) (.ref a) (.ref s4.heap.objs.size)) (EP X pins σ Q) X.xe { s4 with heap := s4.heap.push { cls := .type "slice", data := .fields #[vl, vu, vs] } }
  refine tail_any (ops := [.ref a, .ref s4.heap.objs.size]) ht.isList.typeIs (PySem.slot_list_getitem.lookup) ?_ (by with_unfolding_all rfl)
  refine wpAny_getItem_list_slice ht.isList (Heap.IsSliceOf.new _ vl vu vs) pl pu ps (by decide) ?_ (by rw [List.size_toArray]; omega)
  refine ⟨.ref _, _, I5.laid (t' := s4.toks) (o := .lst (pickL xs l u)) (fun b ob q => Heap.get?_push_of_some _ q) (Nat.le_refl _) ?_, rfl, q _ (I5.hok.fresh (Nat.le_refl _))⟩
  refine ⟨hpl, pickL its l u, 0, ?_, ?_⟩
  · unfold pickL
    rw [hlen]
    exact vals_pick r _
  · have e : (pickL its l u).toArray = slicePick its.toArray l u (some (-1)) := by
      unfold slicePick pickL
      simp
    rw [e]
    exact Heap.get?_push_size _ rfl
theorem se_slr {lo hi : Option Expr} {k : Nat} {p1 p3 : Pos} {ml mh : M (Option Int)} (ha : PE X a (tE (wd X C) E ma)) (hl : PO X lo (tG (wd X C) E RP ml)) (hh : PO X hi (tG (wd X C) E RP mh)) : PE X (.Subscript a (.Slice lo hi (some (.UnaryOp .USub (.Constant (.int 1) k p1) p2)) p3) pos) (tE (wd X C) E (mSlr ma ml mh)) :=
  peW (pe_sliR ha hl hh) fun σ H Q ⟨F, μ, S, R, p⟩ => ⟨F, μ, S, R, (Post.bind p).mono fun u H1 ⟨x, F1, μ1, S1, r1, t1, n1, p1⟩ => ⟨F1, μ1, S1, t1.rel, (Post.bind p1).mono fun l H2 ⟨l', F2, μ2, S2, r2, t2, n2, p2⟩ =>
    ⟨F2, μ2, S2, t2.rel, (Post.bind p2).mono fun h H3 ⟨h', F3, μ3, S3, r3, t3, n3, p3⟩ => by
      cases r2; cases r3
      obtain ⟨d, h1, p4⟩ := Post.rdh p3 t3.rel ((r1.step t2 n2).step t3 n3)
      unfold sliceR at p4
      split at p4
      · rename_i xs'
        obtain ⟨hz, p4⟩ := mapp p4
        obtain ⟨a, vs, rfl, s1, r1⟩ := h1.lst t3.rel.sub
        have r2 := show DRs (wd X C) F3 μ3 (pickL xs' l h) (pickL vs l h) by
          unfold pickL
          rw [r1.length]
          exact drs_pick r1 _
        exact ⟨a, vs, rfl, .inl s1, by rw [← r2.length]; exact hz, fun q hq => Post.newL p4 t3.rel r2 hq⟩
      · exact (Post.fail p4).elim⟩⟩⟩
end
end Vi
/-! text Vj7 -/
set_option Elab.async false
set_option linter.all false
set_option maxRecDepth 100000
set_option maxHeartbeats 1000000
/-! Vj, part 7: repr; max, min, sorted of all. -/
namespace Vi
open PySem PySem.Spec PyProof.Rows L2

def kRepr : List D → M O
  | [d] => (match d.py with
    | some p => if p.showable && !p.hasDict && decide (p.shown.length ≤ line) && decide (dpt d ≤ 60) then ret (.v (.str p.shown)) else fail
    | none => fail)
  | _ => fail
def isInts : D → Bool
  | .lst xs => (intsOf xs).isSome
  | _ => false
def kMaxX (ds : List D) : M O := match ds with
  | [.int _, .int _] => kMax ds
  | [d] => if isInts d then kMax ds else kBst gtD ds
  | _ => fail
def kMinX (ds : List D) : M O := match ds with
  | [.int _, .int _] => kMin ds
  | [d] => if isInts d then kMin ds else kBst ltD ds
  | _ => fail
section
variable {X : Cx} {C : Cc} {E : XK} {pins : List (Addr × Obj)} {σ σ' : L2.St} {H F : Hp} {μ : List Addr} {S : Vi.St} {s : Shared} {ks us xs : List D} {v : V}
theorem repr_any {prog : Program} {w : World} {A : Around} {E : Value → Shared → Prop} {Q : Value → Shared → Prop} {u : Value} {p : PyData} {as : List Addr} (r : Reads s.heap u p as) (hs : p.showable = true) (hd : p.hasDict = false) (hg : A.guards = some []) (hu : A.units + (p.depth + 1) < cLine) (hz : p.shown.length ≤ sizeLine)
    (hQ : ∀ h' u tk, (∀ b o, s.heap.get? b = some o → h'.get? b = some o) → Q (.str p.shown u) { s with heap := h', toks := tk }) : wpAny (model prog w) A (call (.builtin "repr") [u]) Q E s := by
  cases r with
  | none => exact PySem.P.repr_of_none (hQ s.heap _ _ fun _ _ e => e)
  | bool b => exact PySem.P.repr_of_bool (hQ s.heap _ _ fun _ _ e => e)
  | int i t => exact PySem.P.repr_of_int (by simpa [PyData.showable] using hs) (hQ s.heap _ _ fun _ _ e => e)
  | str x t => exact PySem.P.repr_of_str (hQ s.heap _ _ fun _ _ e => e) (by simpa only [PyData.shown] using hz)
  | list h1 h2 h3 h4 => exact repr_of_reads' (.list h1 h2 h3 h4) hs (fun z => by rw [hd] at z; cases z) hg hu (fun _ _ e => e) hQ hz
  | tuple h1 h2 h3 h4 => exact repr_of_reads' (.tuple h1 h2 h3 h4) hs (fun z => by rw [hd] at z; cases z) hg hu (fun _ _ e => e) hQ hz
  | dict h1 h2 h3 h4 h5 => exact repr_of_reads' (.dict h1 h2 h3 h4 h5) hs (fun z => by rw [hd] at z; cases z) hg hu (fun _ _ e => e) hQ hz
theorem cr_repr (hg : X.A.guards = some []) (hu : X.A.units + 66 < cLine) : CallR X (.builtin "repr") (rB (wd X C) E kRepr) := by
  intro pins s σ H xs us Q I r ⟨F, μ, S, σ', ds, R, lr, p⟩
  unfold kRepr at p
  split at p
  · split at p
    · rename_i d q e1
      obtain ⟨ok, p⟩ := mapp p
      simp only [Bool.and_eq_true, decide_eq_true_eq, Bool.not_eq_true'] at ok
      obtain ⟨v, rfl, h⟩ := lr.one
      obtain ⟨u, rfl, rv⟩ := vals1 r
      obtain ⟨as, rr⟩ := Dp.reads I q v u (LR.dp h R.sub e1) rv
      have h2 := dpt_ok e1
      refine repr_any rr ok.1.1.1 ok.1.1.2 hg (by omega) ok.1.2 fun h' t tk hk => ?_
      exact ⟨.str _, H, I.kept hk, ⟨_, rfl⟩, Post.retV p R (.str _)⟩
    · exact p.elim
  · exact p.elim
theorem rB_or {k k1 k2 : List D → M O} (h : ∀ ds, k ds = k1 ds ∨ k ds = k2 ds) {xs : List V} {H : Hp} {Q : VK} (p : rB (wd X C) E k xs H Q) : rB (wd X C) E k1 xs H Q ∨ rB (wd X C) E k2 xs H Q := by
  obtain ⟨F, μ, S, σ, ds, R, lr, p⟩ := p
  rcases h ds with e | e
  · rw [e] at p; exact .inl ⟨F, μ, S, σ, ds, R, lr, p⟩
  · rw [e] at p; exact .inr ⟨F, μ, S, σ, ds, R, lr, p⟩
theorem cr_maxX (hc : X.calm = true) (hu : X.A.units + 66 < cLine) : CallR X (.builtin "max") (rB (wd X C) E kMaxX) := callW ((cr_max' (C := C) (E := E) hc).or (cr_bst (C := C) (E := E) (lt := gtD) hc hu (.inl ⟨rfl, rfl⟩))) fun xs H Q => rB_or fun ds => by
  unfold kMaxX
  split
  · exact .inl rfl
  · split
    · exact .inl rfl
    · exact .inr rfl
  · rename_i h1 h2
    refine .inr ?_
    unfold kBst
    split
    · exact absurd rfl (h2 _)
    · exact absurd rfl (h2 _)
    · exact absurd rfl (h2 _)
    · rfl
theorem cr_minX (hc : X.calm = true) (hu : X.A.units + 66 < cLine) : CallR X (.builtin "min") (rB (wd X C) E kMinX) := callW ((cr_min' (C := C) (E := E) hc).or (cr_bst (C := C) (E := E) (lt := ltD) hc hu (.inr ⟨rfl, rfl⟩))) fun xs H Q => rB_or fun ds => by
  unfold kMinX
  split
  · exact .inl rfl
  · split
    · exact .inl rfl
    · exact .inr rfl
  · rename_i h1 h2
    refine .inr ?_
    unfold kBst
    split
    · exact absurd rfl (h2 _)
    · exact absurd rfl (h2 _)
    · exact absurd rfl (h2 _)
    · rfl
end
end Vi
/-! text Vx1 -/
set_option Elab.async false
set_option linter.all false
set_option maxRecDepth 100000
set_option maxHeartbeats 2000000
/-! Vx, part 1: the base error class' own __init__. -/
namespace Vi
open PySem PySem.Spec PyProof.Rows L2 NdefX

/-- what is known of an error class -/
structure XcF (K : PySem.W.Frag) (C D fI : Addr) : Prop where
  ox : OexC K C
  ini : PySem.W.findIn K (.ref C) "__init__" = some (some (.ref fI))
  fn : PySem.W.typeIn K (.ref fI) = some (.type "function")
  mro : PySem.W.mroIn K C (.ref D) = some true
  sup : PySem.W.ks_superIn K C D "__init__" = some (some (.builtin "ValueError.__init__"))
  ve : PySem.W.subIn K (.ref C) (.type "ValueError") = some true
  val : PySem.W.findIn K (.ref C) "value" = some none
/-- what is known of the base class' __init__ -/
structure IniF (P : Program) (K : PySem.W.Frag) (mg : Str → Option Value) (F : NF) (f D cc : Addr) : Prop where
  cl : F.cl = [(("__class__" : Str), cc)]
  body : ∃ p0 p1 p2 p3 p4 p5 p6 p7 p8 p9, F.body = [.Expr (.Call (.Attribute (.Call (.Name "super" p0) [] [] p1) "__init__" p2) [.Name "value" p3] [] p4) p5, .Assign [.Attribute (.Name "self" p6) "value" p7] (.Name "value" p8) p9] ∧ (p2.endLine == p4.line) = true
  code : PySem.W.codeIn K (.ref F.c) F.qual = true
  sc : NScope ["self", "value", "__class__"] ["self", "value"] ["__class__"] F.scope
  ssu : F.scope.names.lookup ("super" : Str) = some .globalImplicit
  par : ∃ ar, (F.params.posonlyargs ++ F.params.args).head? = some ar ∧ ar.arg = "self"
  cod : ∃ ccl cdd vs ccs file tf, K.lookup F.c = some ⟨ccl, cdd, .fields vs, ccs⟩ ∧ vs[2]? = some (.str file tf) ∧ ((P.main.file : Str) == file) = true
  cell : ∃ cl cld csl, K.lookup cc = some ⟨cl, cld, .cell (some (.ref D)), csl⟩
  top : (P.main.scope.names.lookup ("super" : Str)).isSome = false
  sup : mg "super" = none
  cls : ∃ cd, PySem.W.clsIn K D = some cd
  any : PySem.W.nsIn K cStatics "thirdparty.any" = some none
/-- what it promises -/
def spI (K : PySem.W.Frag) (D fI : Addr) : Sp := fun vs H Q _ => ∃ (e C : Addr) (v : V), vs = [.ref e, v] ∧ XcF K C D fI ∧ H e = some (exo e C none) ∧ ∀ d, H d = none → d ≠ e → Q .non (upd (upd H d (exd d [("value", v)])) e (exo e C (some d)))
theorem boot_super : bootBuiltins "super" = some (.type "super") := by decide +kernel
theorem int_no {env : Env} (h : env.scope.kind = .function) : interactive env = false := by
  unfold interactive
  rw [h]; rfl
theorem super_ev {p0 p1 p2 p3 p4 : Pos} {env : Env} (h : (p2.endLine == p4.line) = true) : eval (.Call (.Attribute (.Call (.Name "super" p0) [] [] p1) "__init__" p2) [.Name "value" p3] [] p4) env = (do
      let ov ← attributeBase (.Call (.Name "super" p0) [] [] p1) "__init__" env (eval (.Call (.Name "super" p0) [] [] p1) env)
      standAt p2.atName
      let (f, first) ← holding [ov] (getMethod ov "__init__" (plainOf (.Call (.Name "super" p0) [] [] p1) env))
      callWith p4 f first (backTo p4 (starEach [.Name "value" p3] env)) []) :=
  congrArg (fun k : Value → Sem Value => attributeBase (.Call (.Name "super" p0) [] [] p1) "__init__" env (eval (.Call (.Name "super" p0) [] [] p1) env) >>= fun ov => standAt p2.atName >>= fun _ => k ov) (funext fun ov => mcall_line (o := .Call (.Name "super" p0) [] [] p1) (m := "__init__") (env := env) (ov := ov) (n := 1) (args := backTo p4 (starEach [.Name "value" p3] env)) (kws := []) rfl h)
theorem ini_ok {P : Program} {w : World} {K : PySem.W.Frag} {mg : Str → Option Value} {base : Heap} {F : NF} {f D cc : Addr} {CX : CXT} {oc doc pm ctv : Value} {od : Option Addr} {sl : Array (Option Value)} (Z : IniF P K mg F f D cc)
    (lk : K.lookup f = some ⟨oc, od, .func (F.fd doc pm ctv), sl⟩) : FnOk P w K mg base CX 1 f (F.fd doc pm ctv) ["self", "value"] (spI K D f) := by
  refine ⟨fun vs H Q E ⟨e, C, v, h, _⟩ => by rw [h]; rfl, fun A outer s H args us vs Q E hr e0 hb r hsp => ?_⟩
  obtain ⟨e, C, v, rfl, T, he, q⟩ := hsp
  have KX : K.In s.heap := e0.mod.kin.keeps fun b o e => (e0.bs b o e).1
  have lim : s.heap.NoLimit := e0.mod.nolimit.keeps fun b o e => (e0.bs b o e).1
  have nk : ∀ b o, K.lookup b = some o → H b = none := fun b o z => (e0.bs b o (e0.mod.kin b o z)).2
  obtain ⟨qc, qd, qs, kc⟩ := Z.cell
  have ccl : CellsAt F.cl ["__class__"] [some (.ref D)] s.heap H := by
    rw [Z.cl]
    have one : ∀ y c, List.lookup y [(("__class__" : Str), cc)] = some c → c = cc ∧ y = "__class__" := fun y c z => by
      simp only [List.lookup] at z
      split at z
      · rename_i hy
        exact ⟨(Option.some.inj z).symm, beq_iff_eq.mp hy⟩
      · cases z
    refine ⟨rfl, fun y c z => ?_, fun x y c h1 h2 => (one _ _ h1).2.trans (one _ _ h2).2.symm, fun i y hy => ?_⟩
    · obtain ⟨rfl, _⟩ := one y c z
      exact ⟨nk _ _ kc, some (.ref D), _, KX _ _ kc, rfl⟩
    · have hy' : i = 0 ∧ y = "__class__" := by
        cases i with
        | zero => simp at hy; exact ⟨rfl, hy.symm⟩
        | succ i => simp at hy
      obtain ⟨rfl, rfl⟩ := hy'
      refine ⟨cc, rfl, fun v hv => ?_⟩
      cases hv
      exact ⟨.ref D, rfl, _, KX _ _ kc, rfl⟩
  obtain ⟨u0, u, rfl, ru0, ru⟩ := vals2 r
  obtain rfl : u0 = Value.ref e := ru0
  have S := Z.sc
  refine PySem.ks_codeAny_call_defAt (fd := F.fd doc pm ctv) (body := F.body) hr.depth (KX _ _ lk) rfl lim (PySem.W.codeRec_of KX Z.code) rfl hb S.nocell (fun x hx => S.par _ (List.of_mem_zip hx).1) (fun h₁ hns kp => ?_) S.co S.gen S.kind
  have I : L2.Inv (ncx CX P w K mg base ["self", "value", "__class__"] F f A outer s H E) [] (startF ["self", "value", "__class__"] [.ref e, v] [some (.ref D)]) H { s with heap := h₁, toks := s.toks + (["self", "value"].zip [Value.ref e, u]).length } := inv_startN S hr.hd e0 rfl (.cons rfl (.cons ru .nil)) ccl hns kp
  generalize hX : ncx CX P w K mg base ["self", "value", "__class__"] F f A outer s H E = X at I
  have xP : X.prog = P := by rw [← hX]; rfl
  have xw : X.w = w := by rw [← hX]; rfl
  have xA : X.A = A.deeper (callEnv (F.fd doc pm ctv) s.heap.objs.size f) := by rw [← hX]; rfl
  have xE : X.env = callEnv (F.fd doc pm ctv) s.heap.objs.size f := by rw [← hX]; rfl
  have xK : X.K = K := by rw [← hX]; rfl
  have xx : X.xe = fun e s' => wpAny (model P w) (A.deeper (callEnv (F.fd doc pm ctv) s.heap.objs.size f)) (leaving (callEnv (F.fd doc pm ctv) s.heap.objs.size f) e) (fun _ s'' => CR CX outer P w H s Q E (.error e) s'') (fun e' s'' => CR CX outer P w H s Q E (.error e') s'') s' := by rw [← hX]; rfl
  have xN : X.N = [("self" : Str), "value", "__class__"] := by rw [← hX]; rfl
  have xm : X.mg = mg := by rw [← hX]; rfl
  obtain ⟨p0, p1, p2, p3, p4, p5, p6, p7, p8, p9, hb, hline⟩ := Z.body
  obtain ⟨ar, hp, har⟩ := Z.par
  obtain ⟨ccl', cdd, vsc, ccs, file, tf, kcd, hvs, hfile⟩ := Z.cod
  obtain ⟨cdD, hD⟩ := Z.cls
  have KI : K.In h₁ := KX.keeps kp
  obtain ⟨oD, hD1, hD2⟩ : ∃ oD, h₁.get? D = some oD ∧ oD.data = .cls cdD := by
    unfold PySem.W.clsIn at hD
    split at hD
    · rename_i c d cd' sl ho
      cases hD
      exact ⟨_, KI _ _ ho, rfl⟩
    · cases hD
  obtain ⟨t1, hex⟩ := exo_at I.hok he
  have glb : h₁.Ns (callEnv (F.fd doc pm ctv) s.heap.objs.size f).globals mg := by
    have z := I.mod.glob.keeps I.bk
    rw [xm] at z
    rw [← xE, I.ok.glob]
    exact z
  obtain ⟨mb, b1, b2⟩ := I.mod.blt
  have bns : h₁.Ns (callEnv (F.fd doc pm ctv) s.heap.objs.size f).builtins mb := by
    rw [← xE, I.ok.blt]
    exact b1.keeps I.bk
  have fin : ∀ {σ' : L2.St} {H' : Hp} {v : V} {u : Value} {s' : Shared}, L2.Inv X [] σ' H' s' → RelV v u → Q v H' → CE outer P w H s Q u s' := fun {σ' H' v u s'} J rv q => by
    subst hX
    exact ⟨v, H', J.os, J.bare, J.base, J.hok, rv, q⟩
  have second : ∀ {s' : Shared} {H' : Hp}, L2.Inv X [] (startF ["self", "value", "__class__"] [.ref e, v] [some (.ref D)]) H' s' → H' = H → wpAny (model P w) (A.deeper (callEnv (F.fd doc pm ctv) s.heap.objs.size f)) (execs [.Assign [.Attribute (.Name "self" p6) "value" p7] (.Name "value" p8) p9] (callEnv (F.fd doc pm ctv) s.heap.objs.size f))
      (fun fl s' => CR CX outer P w H s Q E (.ok (.ret (match fl with | .ret v => v | _ => .none))) s') X.xe s' := by
    intro s' H' J eH
    subst eH
    have st : PSs X [.Assign [.Attribute (.Name "self" p6) "value" p7] (.Name "value" p8) p9] (tSeq (tOst X.K "value" (tVar 0) (tVar 1)) tNext) := pss_cons (ps_ost (pe_var (i := 0) (by rw [xN]; rfl) (by rw [xE]; exact .inl (S.par _ (by simp)))) (pe_var (i := 1) (by rw [xN]; rfl) (by rw [xE]; exact .inl (S.par _ (by simp))))) pss_nil
    have hv := st.run [] s' _ H' { nx := fun _ H' => Q .non H', rt := Q } J (by
      refine ⟨v, rfl, .ref e, rfl, e, C, rfl, by rw [xK]; exact T.ox, by rw [xK]; exact T.val, .inl ⟨he, fun d hd hne => q d hd hne⟩⟩)
    rw [xP, xw, xA, xE] at hv
    refine wpAny_mono hv (fun fl s2 hs => ?_) fun _ _ x => x
    cases fl with
    | ret u =>
      obtain ⟨v, σ', H', J, rv, q⟩ := hs
      exact fin J rv q
    | next =>
      obtain ⟨σ', H', J, q⟩ := hs
      exact fin (v := V.non) (u := Value.none) J rfl q
    | brk =>
      obtain ⟨_, _, _, q⟩ := hs
      exact q.elim
    | cont =>
      obtain ⟨_, _, _, q⟩ := hs
      exact q.elim
  rw [hb]
  show _root_.PySem.wpAt (model P w) (A.deeper (callEnv (F.fd doc pm ctv) s.heap.objs.size f)) _ _ _ _ _
  rw [← xx]
  refine PySem.ks_wpAt_execs_cons (PySem.ks_wpAt_Expr_any (PySem.ks_wpAt_MethodCall (pl := _) (PySem.ks_wpAt_super_base Z.ssu (S.frk _ (by simp)) (by decide) rfl (KI _ _ lk) rfl hp rfl (KI _ _ kcd) rfl hvs hfile Z.top ?_) (super_ev hline)) (hi := int_no S.kind))
  refine PySem.W.ks_loadName_global S.kind Z.ssu (Calls.loadGlobal_builtin glb Z.sup bns ((b2 _ (by decide)).trans boot_super) ⟨rfl, ?_⟩)
  refine wpAny_loadName_free S.kind (S.frk _ (by simp)) (show F.cl.lookup _ = some cc by rw [Z.cl]; rfl) ⟨_, KI _ _ kc, rfl⟩ ?_
  refine wpAny_loadName_local S.kind (show F.scope.names.lookup ar.arg = some .local by rw [har]; exact S.par _ (by simp)) hns (show List.lookup ar.arg _ = some (Value.ref e) by rw [har]; rfl) ?_
  refine PySem.ks_wpAny_isType_cls hD1 hD2 ⟨rfl, ?_⟩
  refine PySem.ks_wpAny_call_super hD1 hD2 hex rfl (fun c z => by cases z) (PySem.W.looks_mroIn KI T.mro) (fun h2 eso k2 => ?_)
  have KI2 : K.In h2 := KI.keeps k2
  cases hcC : PySem.W.clsIn K C with
  | none =>
    have hm := T.sup
    unfold PySem.W.ks_superIn at hm
    rw [hcC] at hm
    cases hm
  | some cdC =>
  have hm := T.sup
  unfold PySem.W.ks_superIn at hm
  rw [hcC] at hm
  have IA : PySem.W.InstAt h2 e _ C none := ⟨k2 _ _ hex, rfl, rfl, trivial⟩
  refine PySem.W.kxs_getMethod PySem.W.kxs_ValueError eso (PySem.W.looks_opaque KI2 Z.any) (l₀ := cdC.mro) (fun A Q E s k q => wpAny_bind ((PySem.W.looks_clsIn KI2 hcC) A _ E s k (wpAny_pure q))) rfl KI2 hm (IA.type.andThen (PySem.W.looks_subIn KI2 T.ve)) (PySem.W.ks_ne KI2 IA hcC) (by decide) ?_
  have eu : (h2.push (PySem.W.kxs_mw "ValueError.__init__" e)).get? h2.objs.size = some (PySem.W.kxs_mw "ValueError.__init__" e) := Heap.get?_push_size _ rfl
  have I2 : L2.Inv X [] (startF ["self", "value", "__class__"] [.ref e, v] [some (.ref D)]) H { s with heap := h2.push (PySem.W.kxs_mw "ValueError.__init__" e), toks := s.toks + (["self", "value"].zip [Value.ref e, u]).length + 1 } := I.kept fun b o z => Heap.get?_push_of_some _ (k2 b o z)
  show wpAny (model P w) (A.deeper (callEnv (F.fd doc pm ctv) s.heap.objs.size f)) (callWith p4 (.ref h2.objs.size) [] (backTo p4 (starEach [.Name "value" p3] (callEnv (F.fd doc pm ctv) s.heap.objs.size f))) []) _ X.xe _
  refine PySem.W.kxs_callWith (i := "ValueError.__init__") (x := e) rfl (PySem.Calls.evalArgs_plain ?_)
  have hns2 : (h2.push (PySem.W.kxs_mw "ValueError.__init__" e)).Ns s.heap.objs.size fun x => List.lookup x ([("self" : Str), "value"].zip [Value.ref e, u]).reverse := by
    obtain ⟨oL, esL, epL, hL, rL⟩ := hns
    exact ⟨oL, esL, epL, Heap.get?_push_of_some _ (k2 _ _ hL), rL⟩
  show wpAny _ _ (spliced ((false, eval (.Name "value" p3) (callEnv (F.fd doc pm ctv) s.heap.objs.size f)) :: backTo p4 (starEach [] (callEnv (F.fd doc pm ctv) s.heap.objs.size f)))) _ _ _
  refine Calls.spliced_cons (wpAny_Name (wpAny_loadName_local S.kind (S.par _ (by simp)) hns2 (show List.lookup _ _ = some u from rfl) ?_) (by decide))
  refine Calls.spliced_nil ⟨eu, ?_⟩
  show wpAny _ _ (call (.ref h2.objs.size) [u]) _ _ _
  obtain ⟨nm, qn, N', bs, bm, sn, sub, ab, col, dd, k0, k1, k3, k4, k5, hC, hbm⟩ := T.ox.cls
  have he2 : (h2.push (PySem.W.kxs_mw "ValueError.__init__" e)).get? e = some _ := Heap.get?_push_of_some _ (k2 _ _ hex)
  refine wpAny_call (codeAny_of_tree ?_)
  show wpAny _ _ (callAny (.ref h2.objs.size) ⟨[u], []⟩) _ _ _
  simp only [callAny]
  refine wpAny_bind (wpAny_load eu ?_)
  have hmw : (Value.type "method-wrapper" == Value.type "method" || Value.type "method-wrapper" == Value.type "builtin_function_or_method" || Value.type "method-wrapper" == Value.type "method-wrapper") = true := by decide
  simp only [PySem.W.kxs_mw, hmw, if_true]
  refine PySem.W.KFB.if_so (by decide) ?_
  refine wpAny_bind (PySem.W.check_bound_init PySem.F.excBase_ValueError.toExcCallFacts (KI2.keeps (fun b o z => Heap.get?_push_of_some _ z) _ _ hC) he2 rfl ?_)
  refine wpAny_bind (wpAny_pure (wpAny_pure ?_))
  refine ⟨plainId_quiet PySem.F.excBase_ValueError.init.plain _, codeAny_builtin PySem.F.excBase_ValueError.initEntry ?_⟩
  refine PySem.W.exc_init_tree (cls := .ref C) (t0 := t1) (dv := none) (c2 := .none) (c3 := .none) (b4 := .bool false) he2 (by show 1 ≤ sizeLine; rw [sizeLine_eq]; omega) fun h3 k3' he3 _ => ?_
  have J := I2.write (t' := s.toks + (["self", "value"].zip [Value.ref e, u]).length + 1) (x := e) (e := e) (o := exo e C none) (by rw [he]; exact True.intro) (.inl rfl) k3' ⟨_, he3⟩ (exo_ok he3)
  have eu : upd H e (exo e C none) = H := by
    funext b
    by_cases hb : b = e
    · rw [hb, upd_same, he]
    · rw [upd_ne hb]
  rw [eu] at J
  exact _root_.PySem.wpAt_of_wpAny (second J rfl)
end Vi
/-! text Vx2 -/
set_option Elab.async false
set_option linter.all false
set_option maxRecDepth 100000
set_option maxHeartbeats 2000000
/-! Vx, part 2: raise C(e). -/
namespace Vi
open PySem PySem.Spec PyProof.Rows L2

def mRse (c : Nat) (m : M O) : MS := mThen (bind m esc) fun d s => .exc c d s
theorem ss_rse {X : Cx} {C : Cc} {E : XK} {c k : Nat} {D fI : Addr} {fd : FuncData} {m : M O} {x : Str} {e : Expr} {p pos pos2 : Pos} (T : XcF X.K (C c) D fI) (F1 : FnOk X.prog X.w X.K X.mg X.base (L2.CX X.prog X.w) k fI fd ["self", "value"] (spI X.K D fI)) (hr : Room (k + 1) X.A)
    (hb : Binds X.K fd ["self", "value"] []) (hc : X.calm = true) (tk : Takes X (fun cls d _ H => E cls d H)) (hg : Gl X x) (hm : X.mg x = some (.ref (C c))) (he : PE X e (tE (wd X C) E m)) (hs : starEach [e] X.env = [(false, eval e X.env)]) (hdb : (x == ("__debug__" : Str)) = false) :
    PS X (.Raise (some (.Call (.Name x p) [e] [] pos)) none pos2) (tS (wd X C) E (mRse c m)) := by
  have hx : Passes (L2.CX X.prog X.w) X (fun _ _ _ => False) := passes_call tk fun _ _ _ _ h => h.elim
  refine psW' (ps_raise hc tk (pmk_oex T.ox T.ini T.fn F1 hr hb .nil hx hg hm (pa_cons (pe_esc he) pa_nil hs) hdb hs rfl)) fun D' σ H ⟨F, μ, S, R, p⟩ => ?_
  refine ⟨F, μ, S, R, (PostS.bind p).mono fun v H1 ⟨d, F1', μ1, S1, e1, r1, t1, n1, tt, p1⟩ => ?_⟩
  refine ⟨by simp, fun a ha => ⟨a, C c, v, rfl, T, upd_same, fun dx h1 h2 => ⟨rfl, dx, [("value", v)], upd_same, ?_, ?_, ?_⟩⟩⟩
  · rw [upd_ne h2, upd_same]
  · rw [upd_ne h2] at h1
    exact h1
  · rw [upd_ne h2] at h1
    have eH : upd (del (upd (upd (upd H1 a (exo a (C c) none)) dx (exd dx [("value", v)])) a (exo a (C c) (some dx))) a) dx (.xd [("value", v)]) = upd H1 dx (.xd [("value", v)]) := by
      funext b
      by_cases hb : b = dx
      · rw [hb, upd_same, upd_same]
      · rw [upd_ne hb, upd_ne hb]
        by_cases ha' : b = a
        · rw [ha', del_same, ha]
        · rw [del_ne ha', upd_ne ha', upd_ne hb, upd_ne ha']
    rw [eH]
    exact p1 F1' μ1 σ _ dx v (Step.new t1.rel h1) upd_same r1
end Vi
/-! text Vx3 -/
set_option Elab.async false
set_option linter.all false
set_option maxRecDepth 100000
set_option maxHeartbeats 2000000
/-! Vx, part 3: isinstance of an error that has its dict; its field. -/
namespace PySem.W
open PySem PySem.Spec PySem.Calls PyProof.Rows
section
variable {prog : Program} {w : World} {A : Around} {E : Value → Shared → Prop} {s : Shared} {K : Frag} {x D : Addr} {ox : Obj} {od : Option Obj}
/-- a data descriptor of the class wins over the own dict -/
theorem viObjData {C : Addr} {nm : Str} {at_ g : Value} (h1 : (clsIn K C).isSome = true) (h2 : findIn K (.ref C) nm = some (some at_)) (h3 : specialIn K at_ "__get__" = some (some g)) (h4 : takesIn K at_ = some true) : findObj K C od nm = some (.bind g at_) := by
  obtain ⟨cd, h1⟩ := Option.isSome_iff_exists.mp h1
  unfold findObj
  simp only [h1, h2, h3, h4, Option.bind_some]
/-- e.__class__, e an error -/
theorem viExcClass {Q : Option Value → Shared → Prop} (c : L2.ExcC K D) (X : K.In s.heap) (I : InstAt s.heap x ox D od) (h : Q (some (.ref D)) { s with toks := s.toks + 1 }) : wpAny (model prog w) A (getAttr? (.ref x) "__class__") Q E s := by
  have isc : (clsIn K D).isSome = true := by
    obtain ⟨cd, z, _⟩ := any_some c.hd
    rw [z]; rfl
  obtain ⟨hp, g, d, t, os⟩ := s
  have lt := I.type (M := model prog w)
  have lg := looks_findIn (M := model prog w) X c.hg
  have la := looks_findIn (M := model prog w) X c.hk
  have lf := looks_find (M := model prog w) X I (viObjData (od := od) isc c.ha c.hn c.ht)
  have ls : Looks (model prog w) hp (isInstance (.ref x) (.type "BaseException")) true := lt.andThen (looks_subIn X c.hs)
  have q2 : (Value.builtin "BaseException.__getattribute__" == Value.builtin "object.__getattribute__") = false := by decide +kernel
  have q1 : (onTheHeap (Value.ref D) && Value.builtin "BaseException.__getattribute__" == Value.builtin "object.__getattribute__") = false := by rw [q2]; rfl
  unfold getAttr? getAttrBy? getAttrBy
  refine wpAny_bind (wpAny_mkText (wpAny_bind (wpAny_attempt (wpAny_holding (wpAny_bind (lt.at (wpAny_bind (lg.at ?_))))))))
  show wpAny _ _ (if (onTheHeap (Value.ref D) && Value.builtin "BaseException.__getattribute__" == Value.builtin "object.__getattribute__") = true then _ else _) _ _ _
  rw [q1, if_neg Bool.false_ne_true]
  unfold getAttrByItsOwn hookBefore
  refine wpAny_bind ?_
  rw [if_pos (show onTheHeap (Value.ref D) = true from rfl)]
  refine la.at ?_
  refine wpAny_bind (wpAny_attempt (wpAny_holding ?_))
  unfold callGetattribute
  rw [show (false && onTheHeap (Value.builtin "BaseException.__getattribute__")) = false from rfl, if_neg Bool.false_ne_true]
  unfold boundAndCalled
  rw [PySem.F.excAttr_ValueError.ga.bind (.ref x)]
  refine wpAny_bind (wpAny_pure ?_)
  show wpAny _ _ (call (.builtin "BaseException.__getattribute__") [.ref x, .str "__class__" t]) _ _ _
  refine wpAny_call (codeAny_call_builtin PySem.F.excAttr_ValueError.ga.plain PySem.F.entry_bexc_ga ?_)
  refine @check_slot (model prog w) _ _ ⟨hp, g, d, t + 1, os⟩ "BaseException.__getattribute__" "BaseException" "__getattribute__" (.ref x) [.str "__class__" t] [] _ (by decide +kernel) (by decide +kernel) ls (PySem.F.args_bexc_ga (.ref x) (.str "__class__" t)) ?_
  unfold Builtin.«object.__getattribute__»
  refine wpAny_bind (wpAny_of_eq (a := ((Value.ref x : Value), [Value.str "__class__" t])) (by first | rfl | (simp only [slotArgs]; rfl)) ?_)
  refine wpAny_bind (wpAny_pure (wpAny_bind (lt.at (wpAny_bind (lf.at ?_)))))
  show wpAny _ _ (holding [Value.builtin "object.__class__"] (call (.builtin "getset_descriptor.__get__") [.builtin "object.__class__", .ref x, .ref D]) >>= ret) _ _ _
  refine wpAny_bind (wpAny_holding (wpAny_call (class_get (s := ⟨hp, g, d, t + 1, os⟩) (ox := ox) (od := od) X I c.hm ?_)))
  refine wpAny_pure ?_
  show wpAny _ _ (handedOut (.ref D)) _ _ _
  rw [handedOut_of (v := .ref D) rfl]
  first
    | exact wpAny_pure (wpAny_pure h)
    | exact wpAny_pure h
    | exact wpAny_pure (wpAny_bind (wpAny_pure (wpAny_pure h)))
theorem viExcKit (c : L2.ExcC K D) : KitX K (.ref x) (.ref D) (fun h => ∃ ox od, InstAt h x ox D od) where
  ty := fun _ _ _ ⟨_, _, I⟩ => I.type
  it := fun _ _ X _ => by
    obtain ⟨cd, z, _⟩ := any_some c.hd
    unfold clsIn at z
    split at z
    · rename_i ho
      intro A' Q' E' s' k q
      unfold isType loadHead
      exact wpAny_bind (wpAny_loadPart (k _ _ (X _ _ ho)) (wpAny_pure q))
    · cases z
  ne := fun h tp dd its n sl X htp => by
    obtain ⟨cd, z, _⟩ := any_some c.hd
    refine Bool.eq_false_iff.mpr fun q => ?_
    have e : D = tp := Value.ref.inj (beq_iff_eq.mp q)
    subst e
    unfold clsIn at z
    split at z
    · rename_i ho
      have y := (X _ _ ho).symm.trans htp
      cases y
    · cases z
  ca := fun X ⟨_, _, I⟩ k => viExcClass c X I k
end
end PySem.W
namespace Vi
open PySem PySem.Spec PyProof.Rows L2
/-- isinstance(e, C), C the class number k, of n classes: 0 is above all others, that are not above one another -/
def isxD (n k : Nat) : D → M O
  | .exc c _ => if c < n ∧ k < n then ret (.v (.bl (c == k || k == 0))) else fail
  | .non => if k < n then ret (.v (.bl false)) else fail
  | _ => fail
structure XisF (K : PySem.W.Frag) (C : Cc) (n : Nat) : Prop where
  ex : ∀ c, c < n → ExcC K (C c)
  one : ∀ c k, c < n → k < n → PySem.W.kitOne K (.ref (C c)) (.ref (C k)) = some (c == k || k == 0)
  non : ∀ k, k < n → PySem.W.kitOne K (.type "NoneType") (.ref (C k)) = some false
section
variable {X : Cx} {C : Cc} {E : XK} {n : Nat}
def kIsx (n : Nat) : List D → M O
  | [d, .cls k] => isxD n k d
  | _ => fail
theorem LR.cls {W : Wd} {F H : Hp} {μ : List Addr} {k : Nat} {v : V} (h : LR W F μ H (.cls k) v) : v = .ref (W.C k) := by
  rcases h with h | ⟨a, _, l⟩
  · cases h; rfl
  · exact l.elim
theorem cr_isx (Z : XisF X.K C n) : CallR X (.builtin "isinstance") (rB (wd X C) E (kIsx n)) := by
  intro pins s σ H xs us Q I r ⟨F, μ, S, σ', ds, R, lr, p⟩
  unfold kIsx at p
  split at p
  · rename_i d k
    obtain ⟨u, v, rfl, h1, h2⟩ := lr.two
    have e2 := h2.cls
    subst e2
    obtain ⟨u1, u2, rfl, r1, r2⟩ := vals2 r
    obtain rfl : u2 = Value.ref (C k) := r2
    unfold isxD at p
    split at p
    · rename_i c d'
      obtain ⟨⟨hc, hk⟩, p⟩ := mapp p
      have fx : ∃ a dx w, u = .ref a ∧ H a = some (ExV a (C c) dx) ∧ H dx = some (.xd [("value", w)]) := by
        rcases h1 with h1 | ⟨a, _, l⟩
        · cases h1 with
          | exc g1 g2 _ => exact ⟨_, _, _, rfl, R.sub _ _ g1, R.sub _ _ g2⟩
        · exact l.elim
      obtain ⟨a, dx, w, rfl, g1, g2⟩ := fx
      obtain rfl : u1 = Value.ref a := r1
      obtain ⟨oe, vs, he, ⟨hz1, hz2⟩, hd⟩ := (show ObjOk X.prog X.w H s.heap a (ExV a (C c) dx) from I.hok a _ g1).1
      obtain ⟨mA, ⟨o, es, ep, hdx, _⟩, _⟩ := (show ObjOk X.prog X.w H s.heap dx (.xd [("value", w)]) from I.hok dx _ g2)
      have J : PySem.W.InstAt s.heap a oe (C c) (some o) := by
        refine ⟨he, hz1, ?_, ?_⟩
        · unfold PySem.W.notCls
          rw [hd]
        · rw [hz2]
          exact hdx
      exact PySem.W.kia_one (PySem.W.viExcKit (Z.ex c hc)) I.kIn ⟨_, _, J⟩ (Z.one c k hc hk) (fun z => nomatch z) fun tk => ⟨.bl (c == k || k == 0), H, I.kept (t' := tk) fun _ _ z => z, rfl, Post.retV p R (.bl _)⟩
    · obtain ⟨hk, p⟩ := mapp p
      have e1 := h1.non
      subst e1
      obtain rfl : u1 = Value.none := r1
      exact PySem.W.kia_one PySem.W.kitx_none I.kIn True.intro (Z.non k hk) (fun z => nomatch z) fun tk => ⟨.bl false, H, I.kept (t' := tk) fun _ _ z => z, rfl, Post.retV p R (.bl _)⟩
    · exact p.elim
  · exact p.elim
end
end Vi
/-! text Vx4 -/
set_option Elab.async false
set_option linter.all false
set_option maxRecDepth 100000
set_option maxHeartbeats 2000000
/-! Vx, part 4: e.value of an error. -/
namespace Vi
open PySem PySem.Spec PyProof.Rows L2
def xvD (n : Nat) : D → M O
  | .exc c v => if c < n then ret (.v v) else fail
  | _ => fail
def mXv (n : Nat) (m : M O) : M O := bind m fun o => bind (rdh o) (xvD n)
structure XvF (K : PySem.W.Frag) (C : Cc) (n : Nat) : Prop where
  ex : ∀ c, c < n → XfC K (C c)
  no : ∀ c, c < n → PySem.W.findIn K (.ref (C c)) "value" = some none
section
variable {X : Cx} {C : Cc} {E : XK} {n : Nat} {e : Expr} {m : M O} {pos : Pos}
theorem se_xv (Z : XvF X.K C n) (he : PE X e (tE (wd X C) E m)) (hb : attributeBase e "value" X.env (eval e X.env) = eval e X.env) : PE X (.Attribute e "value" pos) (tE (wd X C) E (mXv n m)) := by
  refine ⟨fun pins s σ H Q I ⟨F, μ, S, R, p⟩ => ?_⟩
  refine attr_of hb (thn (he.run pins s σ H _ I ⟨F, μ, S, R, Post.bind p⟩) fun u s1 hh => ?_)
  obtain ⟨x, H1, I1, rx, o, F1, μ1, S1, r1, t1, n1, p1⟩ := hh
  obtain ⟨d, h1, p3⟩ := Post.rdh p1 t1.rel r1
  unfold xvD at p3
  split at p3
  · rename_i c v
    obtain ⟨hc, p3⟩ := mapp p3
    have fx : ∃ a dx w, x = .ref a ∧ H1 a = some (ExV a (C c) dx) ∧ H1 dx = some (.xd [("value", w)]) ∧ DR (wd X C) F1 μ1 v w := by
      rcases h1 with h1 | ⟨a, _, l⟩
      · cases h1 with
        | exc g1 g2 g3 => exact ⟨_, _, _, rfl, t1.rel.sub _ _ g1, t1.rel.sub _ _ g2, g3⟩
      · exact l.elim
    obtain ⟨a, dx, w, rfl, g1, g2, g3⟩ := fx
    obtain rfl : u = Value.ref a := rx
    obtain ⟨oe, vs, ha, ⟨hz1, hz2⟩, hd⟩ := (show ObjOk X.prog X.w H1 s1.heap a (ExV a (C c) dx) from I1.hok a _ g1).1
    obtain ⟨mA, hns, hr⟩ := (show ObjOk X.prog X.w H1 s1.heap dx (.xd [("value", w)]) from I1.hok dx _ g2)
    obtain ⟨od, ho, hl⟩ := lookIn_ns hns
    obtain ⟨u, hu, ru⟩ := RelO.some_of (v := w) (o := mA "value") (hr "value")
    have J : PySem.W.InstAt s1.heap a oe (C c) (some od) := ⟨ha, hz1, by unfold PySem.W.notCls; rw [hd] <;> rfl, by rw [hz2]; exact ho⟩
    have T := Z.ex c hc
    exact HandSPX.exc_get I1.kIn J T.ga T.gg T.exC (PySem.W.findObj_own T.hdC (Z.no c hc) rfl (by rw [hl, hu])) (handed_of ru) ⟨w, H1, I1.tok _, ru, Post.retV p3 t1.rel g3⟩
  · exact (Post.fail p3).elim
end
end Vi
/-! text Vj8 -/
set_option Elab.async false
set_option linter.all false
set_option maxRecDepth 100000
set_option maxHeartbeats 1000000
/-! Vj, part 8: d.update(e), keys ints and texts. -/
namespace Vi
open PySem PySem.Spec PyProof.Rows L2

def fUpd (ks2 us2 : List D) : D → Option (D × D)
  | .dct ks us => if (ks.all isPlain && ks2.all isPlain && decide (ks.length + ks2.length ≤ line)) = true then some (.dct (putP (ks2.zip us2) (ks, us)).1 (putP (ks2.zip us2) (ks, us)).2, .non) else none
  | _ => none
def kUpd (o : O) : List D → M O
  | [.dct ks us] => upM o (fUpd ks us)
  | _ => fail
section
variable {X : Cx} {C : Cc} {E : XK} {F : Hp} {μ : List Addr} {S : St} {σ : L2.St} {H H0 : Hp}
theorem pr2_of : ∀ {ks us : List D} {kvs : List (Key × V)}, DRk (wd X C) F μ ks us kvs → PR2 (wd X C) F μ (ks.zip us) kvs
  | _, _, _, .nil => .nil
  | _, _, _, .cons h a t => .cons h a (pr2_of t)
theorem fz_dct {ks us : List D} {v : V} (h : DR (wd X C) F μ (.dct ks us) v) : ∃ a o u, v = .ref a ∧ F a = some (.frz o u) := by
  cases h with
  | dk h _ => obtain ⟨o, e⟩ := h; exact ⟨_, o, _, rfl, e⟩
  | dn h _ => obtain ⟨o, e⟩ := h; exact ⟨_, o, _, rfl, e⟩
theorem liv_frz {W : Wd} {a : Addr} {d : D} {o : Obj} {u : HO} (l : Liv W F μ H a d) (e : H a = some (.frz o u)) : False := by
  cases d with
  | lst xs => obtain ⟨vs, h, _⟩ := l; rw [e] at h; cases h
  | dct ks us =>
    rcases l with ⟨kvs, h, _⟩ | ⟨xs, h, _⟩
    · rw [e] at h; cases h
    · rw [e] at h; cases h
  | _ => exact l.elim
theorem mr_update : MtR X "dict.update" (rM (wd X C) E kUpd) := fun pins s σ H x xs v us Q I rx rv ⟨F, μ, S, σ', H0, o, ds, R, r, rd, p⟩ => by
  unfold kUpd at p
  split at p
  · rename_i ks2 us2
    obtain ⟨a, d, d', z, rfl, l, e, q⟩ := up_post R r p
    obtain rfl : v = Value.ref a := rx
    cases rd with
    | cons rd t =>
      cases t
      obtain ⟨u, rfl, ru⟩ := vals1 rv
      obtain ⟨b, ob, uo, rfl, hb⟩ := fz_dct rd
      obtain rfl : u = Value.ref b := ru
      have hne : a ≠ b := fun z => liv_frz l (by rw [z]; exact R.sub _ _ hb)
      unfold fUpd at e
      split at e
      · rename_i ks us
        split at e
        · rename_i hc
          cases e
          simp only [Bool.and_eq_true, decide_eq_true_eq] at hc
          obtain ⟨⟨c1, c2⟩, c3⟩ := hc
          rw [line_eq] at c3
          have hmut : L2.Mut (H a) := l.mut
          obtain ⟨kvs, hkd, hr⟩ := LR.kdW R.sub l c1
          obtain ⟨h1, h2, vs, kv, hm⟩ := Inv.rdK I hkd
          obtain ⟨b', kvs2, eb, hkd2, hr2⟩ := LR.dctK (X := X) (C := C) (.inl rd) R.sub c2
          cases eb
          obtain ⟨h3, h4, vs2, kv2, hm2⟩ := Inv.rdK I hkd2
          have l1 : kvs.length = vs.length := Paired.length kv
          have l2 : kvs2.length = vs2.length := Paired.length kv2
          have l3 := hr.len
          have l4 := hr2.len
          refine call_meetsIn PySem.F.slot_dict_update hm.typeIs PySem.F.entry_dict_update (PySem.F.args_dict_update_2 _ _) (meets_dict_update (mixKind X.prog X.w) a b hne h3) ⟨vs, vs2, hm, hm2, by omega, fun h' dd _ hs => ?_⟩
          have hz : (mergeK kvs kvs2).length ≤ sizeLine := by
            have := length_mergeK kvs2 kvs
            omega
          have he : ∃ q, h'.get? a = some q := let ⟨q, _, _, hq, _⟩ := dd; ⟨q, hq⟩
          have m1 := drk_merge (X := X) (pr2_of hr2) hr (KD.nd I hkd)
          exact ⟨.non, _, d_write I hmut hs he (dk_new hz h1 (kv2.merge kv) dd), rfl, q _ .non (.inl ⟨_, upd_same, m1.1⟩) .non⟩
        · cases e
      · cases e
  · exact p.elim
end
end Vi
/-! text Vi25 -/
set_option Elab.async false
set_option linter.all false
set_option maxRecDepth 100000
set_option maxHeartbeats 1000000
/-! Vi, part 25: the own syntax, its meaning, the comparison with the program's. -/
namespace Vi
open PySem PySem.Spec PyProof.Rows L2

inductive Bi where
  | len | abs | int | max | min | sum | all | any | sorted | tuple | list | isi | dict | repr
inductive Me where
  | append | extend | pop | get | update
mutual
inductive Tg where
  | nm (i : Nat) | tp (ts : Tgs)
inductive Tgs where
  | nil | cons (t : Tg) (ts : Tgs)
end
mutual
inductive Ex where
  | var (i : Nat) | c (d : D) | ty (n : String) | gl (i : Nat) | no
  | bin (o : Op2) (a b : Ex) | neg (a : Ex) | not (a : Ex) | and (es : Exs) | or (es : Exs)
  | cmp (o : Cm) (a b : Ex) | chn (o o' : Cm) (a b c : Ex) | ife (c a b : Ex)
  | idx (a b : Ex) | sli (a lo hi : Ex) | rev (a : Ex) | slr (a lo hi : Ex) | shr (a : Ex) | xv (a : Ex)
  | tup (es : Exs) | lst (es : Exs) | dct0
  | call (f : Nat) (es : Exs) | bi (b : Bi) (es : Exs) | me (m : Me) (a : Ex) (es : Exs)
  | lc (vs : List Nat) (t : Tg) (it : Ex) (cd : Ex) (e : Ex)
  | dsp (es : Exs)
  | dc (vs : List Nat) (t : Tg) (it : Ex) (cd : Ex) (k e : Ex)
  | lrg1 (a : Ex) | lrg2 (a b : Ex)
  | rng (es : Exs) | zip (es : Exs) | enu (es : Exs) | itm (a : Ex) | vals (a : Ex)
inductive Exs where
  | nil | cons (a : Ex) (r : Exs) | star (a : Ex) (r : Exs)
end
mutual
inductive Sm where
  | skip | doE (e : Ex) | set (i : Nat) (e : Ex) | asg (t : Tg) (e : Ex) | setix (o i e : Ex) | par2 (i j : Nat) (a b : Ex) | par3 (i j l : Nat) (a b c : Ex) | parT (is : List Nat) (es : Exs)
  | ret (e : Ex) | retN | ifS (c : Ex) (a b : Sms) | forS (t : Tg) (it : Ex) (b : Sms) | whl (n : Nat) (c : Ex) (b : Sms) | rse (g : Nat) (e : Ex) | never
inductive Sms where
  | nil | cons (s : Sm) (r : Sms)
end

/-! ### meaning -/
def kIsiX (n : Nat) : List D → M O
  | [d, .cls c] => kIsx n [d, .cls c]
  | ds => kIsi ds
def Bi.k (n : Nat) : Bi → List D → M O
  | .len => kLen | .abs => kAbs | .int => kInt | .max => kMaxX | .min => kMinX | .sum => kSum | .all => kAll | .any => kAny | .tuple => kTup | .list => kLst | .isi => kIsiX n | .sorted => kSrt | .dict => kDct | .repr => kRepr
/-- how many error classes the globals' values tell of -/
def xcN (gv : Nat → D) : Nat := match gv 4096 with
  | .int i => i.toNat
  | _ => 0
def Exs.len : Exs → Nat
  | .nil => 0
  | .cons _ r => r.len + 1
  | .star _ r => r.len + 1
def Tgs.len : Tgs → Nat
  | .nil => 0
  | .cons _ r => r.len + 1
mutual
def gT : Tg → D → M Unit
  | .nm i => gNm i
  | .tp ts => gTp ts.len (gTs ts)
def gTs : Tgs → List D → M Unit
  | .nil => gNl
  | .cons t ts => gCn (gT t) (gTs ts)
end
def mIfeT (c a b : M Bool) : M Bool := bind c fun k => if k = true then a else b
def mDct0 : M O := ret (.w (.dct [] []))
section
-- the globals' values; the defs' arities; their meaning
variable (gv : Nat → D) (ar : Nat → Nat) (Φ : Nat → Cf)
structure Rg where
  v : M O
  t : M Bool
  i : M (List D)
  p : M (Option Int)
  c : M Bool
structure Rs where
  n : Nat
  vs : M (List D)
  os : M (List O)
  av : M O
  ov : M O
  at_ : M Bool
  ot : M Bool
def rgV (v : M O) : Rg := ⟨v, mTest v, mItems v, mPart v, mTest v⟩
def rgT (v : M O) (t : M Bool) : Rg := ⟨v, t, mItems v, mPart v, t⟩
def rgI (i : M (List D)) : Rg := ⟨fail, fail, i, fail, fail⟩
mutual
def ev4 : Ex → Rg
  | .var i => rgV (mVar i)
  | .c d => rgV (mC d)
  | .ty n => rgV (mC (.ty n))
  | .gl i => rgV (mC (gv i))
  | .no => ⟨fail, fail, fail, mNoPart, ret true⟩
  | .bin o a b => rgV (bind (ev4 a).v fun x => bind (ev4 b).v fun y => bind (rdh x) fun d => bind (rdh y) fun e => op2 o d e)
  | .neg a => rgV (mNeg (ev4 a).v)
  | .not a => rgT (mNot (ev4 a).v) (mNotT (ev4 a).t)
  | .and es => rgT (evs4 es).av (evs4 es).at_
  | .or es => rgT (evs4 es).ov (evs4 es).ot
  | .cmp o a b => rgT (mCmp o (ev4 a).v (ev4 b).v) (mTestB (mCmp o (ev4 a).v (ev4 b).v))
  | .chn o o' a b c => rgT (mChn o o' (ev4 a).v (ev4 b).v (ev4 c).v) (mTestB (mChn o o' (ev4 a).v (ev4 b).v (ev4 c).v))
  | .ife c a b => rgT (mIfe (ev4 c).t (ev4 a).v (ev4 b).v) (mIfeT (ev4 c).t (ev4 a).t (ev4 b).t)
  | .idx a b => rgV (mIdx (ev4 a).v (ev4 b).v)
  | .sli a lo hi => rgV (mSli (ev4 a).v (ev4 lo).p (ev4 hi).p)
  | .rev a => rgV (mRev (ev4 a).v)
  | .slr a lo hi => rgV (mSlr (ev4 a).v (ev4 lo).p (ev4 hi).p)
  | .shr a => rgV (bind (ev4 a).v shrO)
  | .xv a => rgV (mXv (xcN gv) (ev4 a).v)
  | .tup es => rgV (mTup (evs4 es).vs)
  | .lst es => rgV (mLst (evs4 es).vs)
  | .dct0 => rgV mDct0
  | .call f es => rgV (mCall (ar f) (Φ f) (evs4 es).vs)
  | .bi b es => rgV (mBi (b.k (xcN gv)) (evs4 es).os)
  | .me m a es => rgV (match m with
    | .append => mMe .l kApp (ev4 a).v (evs4 es).vs
    | .extend => mMr .l kExt (ev4 a).v (evs4 es).os
    | .pop => mMe .l kPop (ev4 a).v mNil
    | .get => mMe .d kGet (ev4 a).v (evs4 es).vs
    | .update => mMe .d kUpd (ev4 a).v (evs4 es).vs)
  | .lc vs t it cd e => rgV (mLc vs (ev4 it).i (gT t) (ev4 cd).c (bind (ev4 e).v esc))
  | .dsp es => rgV (mDsp (evs4 es).vs)
  | .dc vs t it cd k e => rgV (mDc vs (ev4 it).i (gT t) (ev4 cd).c (bind (ev4 k).v esc) (bind (ev4 e).v esc))
  | .lrg1 a => rgV (mLrg1 (ev4 a).v)
  | .lrg2 a b => rgV (mLrg2 (ev4 a).v (ev4 b).v)
  | .rng es => rgI (bind (evs4 es).vs fun xs => if xs.length = (evs4 es).n then rngD xs else fail)
  | .zip es => rgI (mZip (evs4 es).vs)
  | .enu es => rgI (mEnum (evs4 es).vs)
  | .itm a => rgI (mItm (ev4 a).v)
  | .vals a => rgI (mVal (ev4 a).v)
termination_by structural x => x
def evs4 : Exs → Rs
  | .nil => ⟨0, mNil, mONil, fail, fail, fail, fail⟩
  | .cons a r => ⟨(evs4 r).n + 1, mCons (ev4 a).v (evs4 r).vs, mOCons (ev4 a).v (evs4 r).os,
      (match r with | .nil => (ev4 a).v | _ => mAnd (ev4 a).v (evs4 r).av), (match r with | .nil => (ev4 a).v | _ => mOr (ev4 a).v (evs4 r).ov),
      (match r with | .nil => (ev4 a).t | _ => mAndT (ev4 a).t (evs4 r).at_), (match r with | .nil => (ev4 a).t | _ => mOrT (ev4 a).t (evs4 r).ot)⟩
  | .star a r => ⟨(evs4 r).n + 1, mStar (ev4 a).v (evs4 r).vs, fail, fail, fail, fail, fail⟩
termination_by structural x => x
end
mutual
def run : Sm → MS
  | .skip => mSkip
  | .doE e => mDo (ev4 gv ar Φ e).v
  | .set i e => mSet i (ev4 gv ar Φ e).v
  | .asg t e => mAsg (gT t) (ev4 gv ar Φ e).v
  | .setix o i e => mSetIx (ev4 gv ar Φ e).v (ev4 gv ar Φ o).v (ev4 gv ar Φ i).v
  | .par2 i j a b => mPar [i, j] (mOCons (ev4 gv ar Φ a).v (mOCons (ev4 gv ar Φ b).v mONil))
  | .par3 i j l a b c => mPar [i, j, l] (mOCons (ev4 gv ar Φ a).v (mOCons (ev4 gv ar Φ b).v (mOCons (ev4 gv ar Φ c).v mONil)))
  | .parT is es => mPar is (evs4 gv ar Φ es).os
  | .ret e => mRet (ev4 gv ar Φ e).v
  | .retN => mRet (ret (.v .non))
  | .ifS c a b => mIfS (ev4 gv ar Φ c).t (runs a) (runs b)
  | .forS t it b => mFor (ev4 gv ar Φ it).i (gT t) (runs b)
  | .whl n c b => mWhile (ev4 gv ar Φ c).t (runs b) n
  | .rse g e => (match gv g with | .cls c => if c < xcN gv then mRse c (ev4 gv ar Φ e).v else fun _ => .fail | _ => fun _ => .fail)
  | .never => fun _ => .fail
termination_by structural x => x
def runs : Sms → MS
  | .nil => mSkip
  | .cons s r => mSeq (run s) (runs r)
termination_by structural x => x
end
end

/-! ### the comparison -/
structure Inf where
  N : List Str
  sc : Scope
  own : Option Scope
def relS (scope sc : Scope) : Scope :=
  { scope with names := scope.names.map fun (n, k) => if (k == .free && sc.kind == .function && sc.names.lookup n == some .cell) then (n, .cell) else (n, k) }
def Inf.blk (I : Inf) (scope : Scope) : Inf := ⟨I.N, relS scope I.sc, some scope⟩
def Inf.st (I : Inf) (x : Str) : Bool := match I.own with
  | none => true
  | some scope => scope.names.lookup x == some .cell
def nameOk (x : Str) : Bool := !(x == ("__debug__" : Str)) && !(x == ("__classdict__" : Str))
def visB (sc : Scope) (x : Str) : Bool := match sc.names.lookup x with
  | some .local => true
  | some .cell => true
  | some .free => true
  | _ => false
def locB (sc : Scope) (x : Str) : Bool := match sc.names.lookup x with
  | some .local => true
  | some .cell => true
  | _ => false
def glB (sc : Scope) (x : Str) : Bool := match sc.names.lookup x with
  | some .globalImplicit => true
  | _ => false
def isLocal (sc : Scope) (x : Str) : Bool := match sc.names.lookup x with
  | some .local => true
  | _ => false
def notStar : Expr → Bool
  | .Starred _ _ => false
  | _ => true
def notSet : Expr → Bool
  | .Set _ _ _ => false
  | _ => true
def notSlice : Expr → Bool
  | .Slice _ _ _ _ => false
  | _ => true
def notComp : Expr → Bool
  | .ListComp _ _ _ _ => false
  | .SetComp _ _ _ _ => false
  | .DictComp _ _ _ _ _ => false
  | _ => true
def isLC : Expr → Bool
  | .ListComp _ _ _ _ => true
  | .DictComp _ _ _ _ _ => true
  | _ => false
/-- the names of a target list, each to be stored -/
def nmsOk (I : Inf) : List Nat → List Expr → Bool
  | [], [] => true
  | i :: is, .Name x _ :: ts => decide (I.N[i]? = some x) && locB I.sc x && (I.st x || isLocal I.sc x) && nmsOk I is ts
  | _, _ => false
def locNames (sc : Scope) (line : Nat) (ts : List Expr) : List Str := ts.filterMap fun
    | .Name id pos => if sc.names.lookup id == some .local && pos.line == line then some id else none
    | _ => none
/-- the stores are not swapped -/
def noParB (sc : Scope) (ts vs : List Expr) : Bool := !(ts.length == 2 || ts.length == 3) || (locNames sc ((ts.head?.map (·.pos.line)).getD 0) ts).length != ts.length || vs.all (foldedForSure 8)
def isTupE : Expr → Bool
  | .Tuple _ _ _ => true
  | _ => false
def isListE : Expr → Bool
  | .List _ _ => true
  | _ => false
def plainBase : Expr → Bool
  | .Name _ _ => true
  | .Subscript _ _ _ => true
  | .Attribute _ _ _ => true
  | .List _ _ => true
  | .Dict _ _ _ => true
  | .Call _ (_ :: _) _ _ => true
  | _ => false
/-- no form whose truth is told otherwise -/
def notOp : Expr → Bool
  | .UnaryOp _ _ _ => false
  | .BoolOp _ _ _ => false
  | .IfExp _ _ _ _ => false
  | .Compare _ _ _ _ => false
  | _ => true
def constOk : D → Const → Bool
  | .int i, .int j => decide (i = j)
  | .bl b, .bool c => b == c
  | .non, .none => true
  | .str x, .str y => decide (x = y)
  | _, _ => false
def Bi.nm : Bi → Str
  | .len => "len" | .abs => "abs" | .int => "int" | .max => "max" | .min => "min" | .sum => "sum" | .all => "all" | .any => "any" | .sorted => "sorted" | .tuple => "tuple" | .list => "list" | .isi => "isinstance" | .dict => "dict" | .repr => "repr"
def Me.nm : Me → Str
  | .append => "append" | .extend => "extend" | .pop => "pop" | .get => "get" | .update => "update"
def tyNames : List (String × Str) := [("int", "int"), ("bool", "bool"), ("str", "str"), ("tuple", "tuple"), ("list", "list"), ("dict", "dict")]
section
variable (fn : Nat → Option Str) (gn : Nat → Option Str)
mutual
def chkT (I : Inf) (ws : List Nat) : Tg → Expr → Bool
  | .nm i, .Name x _ => decide (I.N[i]? = some x) && locB I.sc x && (I.st x || isLocal I.sc x) && ws.contains i
  | .tp ts, .Tuple es _ _ => chkTs I ws ts es
  | _, _ => false
def chkTs (I : Inf) (ws : List Nat) : Tgs → List Expr → Bool
  | .nil, [] => true
  | .cons t ts, e :: es => notStar e && chkT I ws t e && chkTs I ws ts es
  | _, _ => false
end
structure Ck where
  v : Expr → Bool
  i : Expr → Expr → Bool
  p : Option Expr → Bool
  c : List Expr → Bool
structure Cs where
  s : List Expr → Bool
  a : List Expr → Bool
  d : List (Option Expr) → List Expr → Bool
  dv : List (Option Expr) → List Expr → Bool
def ckV (f : Expr → Bool) : Ck := ⟨f, fun _ e => f e, fun o => match o with | some e => f e | none => false, fun es => match es with | [e] => f e | _ => false⟩
def ckI (f : Expr → Expr → Bool) : Ck := ⟨fun _ => false, f, fun _ => false, fun _ => false⟩
mutual
def chk4 : Ex → Inf → Ck
  | .var i, I => ckV fun e => match e with | .Name x _ => decide (I.N[i]? = some x) && visB I.sc x && nameOk x | _ => false
  | .c d, _ => ckV fun e => match e with | .Constant c _ _ => constOk d c | _ => false
  | .ty n, I => ckV fun e => match e with | .Name x _ => tyNames.contains (n, x) && glB I.sc x | _ => false
  | .gl i, I => ckV fun e => match e with | .Name x _ => decide (gn i = some x) && glB I.sc x && nameOk x | _ => false
  | .no, _ => ⟨fun _ => false, fun _ _ => false, fun o => o.isNone, fun es => es.isEmpty⟩
  | .bin o a b, I => ckV fun e => match e with | .BinOp l op r _ => decide (o.py = op) && (chk4 a I).v l && (chk4 b I).v r | _ => false
  | .neg a, I => ckV fun e => match e with | .UnaryOp .USub e _ => (chk4 a I).v e | _ => false
  | .not a, I => ckV fun e => match e with | .UnaryOp .Not e _ => (chk4 a I).v e | _ => false
  | .and es, I => ckV fun e => match e with | .BoolOp .And xs _ => (chks4 es I).a xs | _ => false
  | .or es, I => ckV fun e => match e with | .BoolOp .Or xs _ => (chks4 es I).a xs | _ => false
  | .cmp o a b, I => ckV fun e => match e with | .Compare l [op] [r] _ => decide (o.py = op) && notSet r && (chk4 a I).v l && (chk4 b I).v r | _ => false
  | .chn o o' a b c, I => ckV fun e => match e with | .Compare l [op, op'] [r, q] _ => decide (o.py = op) && decide (o'.py = op') && notSet q && (chk4 a I).v l && (chk4 b I).v r && (chk4 c I).v q | _ => false
  | .ife c a b, I => ckV fun e => match e with | .IfExp t x y _ => (chk4 c I).v t && (chk4 a I).v x && (chk4 b I).v y | _ => false
  | .idx a b, I => ckV fun e => match e with | .Subscript o i _ => notSlice i && (chk4 a I).v o && (chk4 b I).v i | _ => false
  | .sli a lo hi, I => ckV fun e => match e with | .Subscript o (.Slice l h none _) _ => (chk4 a I).v o && (chk4 lo I).p l && (chk4 hi I).p h | _ => false
  | .rev a, I => ckV fun e => match e with | .Subscript o (.Slice none none (some (.UnaryOp .USub (.Constant (.int 1) _ _) _)) _) _ => (chk4 a I).v o | _ => false
  | .slr a lo hi, I => ckV fun e => match e with | .Subscript o (.Slice l h (some (.UnaryOp .USub (.Constant (.int 1) _ _) _)) _) _ => (chk4 a I).v o && (chk4 lo I).p l && (chk4 hi I).p h | _ => false
  | .shr a, I => ckV fun e => (notComp e && notOp e) && (chk4 a I).v e
  | .xv a, I => ckV fun e => match e with | .Attribute o name _ => decide (name = ("value" : Str)) && plainBase o && (chk4 a I).v o | _ => false
  | .tup es, I => ckV fun e => match e with | .Tuple xs _ _ => (chks4 es I).s xs | _ => false
  | .lst es, I => ckV fun e => match e with | .List xs _ => (chks4 es I).s xs | _ => false
  | .dct0, _ => ckV fun e => match e with | .Dict [] [] _ => true | _ => false
  | .call f es, I => ckV fun e => match e with | .Call (.Name x _) args [] _ => decide (fn f = some x) && glB I.sc x && nameOk x && args.all notStar && (chks4 es I).s args | _ => false
  | .bi b es, I => ckV fun e => match e with | .Call (.Name x _) (e :: args) [] _ => decide (b.nm = x) && glB I.sc x && notStar e && args.all notStar && (chks4 es I).s (e :: args) | _ => false
  | .me m a es, I => ckV fun e => match e with
    | .Call (.Attribute o name apos) args [] cpos => decide (m.nm = name) && plainBase o && (apos.endLine == cpos.line) && args.all notStar && decide (args.length < 20) && (match m with | .pop => args.isEmpty | _ => !args.isEmpty) && (chk4 a I).v o && (chks4 es I).s args
    | _ => false
  | .lc vs t it cd e, I => ckV fun x => match x with
    | .ListComp elt [⟨tg, iter, ifs, 0⟩] scope _ => blkC I.N I.sc scope (vs.map fun i => (I.N.getD i "", i)) && notSet iter && chkT (I.blk scope) vs t tg && (chk4 it I).i tg iter && (chk4 cd (I.blk scope)).c ifs && (chk4 e (I.blk scope)).v elt
    | _ => false
  | .dsp es, I => ckV fun e => match e with | .Dict keys values _ => decide (1 ≤ keys.length) && decide (keys.length ≤ 15) && (chks4 es I).d keys values | _ => false
  | .dc vs t it cd k e, I => ckV fun x => match x with
    | .DictComp kx vx [⟨tg, iter, ifs, 0⟩] scope _ => blkC I.N I.sc scope (vs.map fun i => (I.N.getD i "", i)) && notSet iter && chkT (I.blk scope) vs t tg && (chk4 it I).i tg iter && (chk4 cd (I.blk scope)).c ifs && (chk4 k (I.blk scope)).v kx && (chk4 e (I.blk scope)).v vx
    | _ => false
  | .lrg1 a, I => ckV fun e => match e with | .Call (.Name x _) [.Call (.Name y _) [z] [] _] [] _ => decide (x = ("list" : Str)) && glB I.sc x && decide (y = ("range" : Str)) && glB I.sc y && notStar z && (chk4 a I).v z | _ => false
  | .lrg2 a b, I => ckV fun e => match e with | .Call (.Name x _) [.Call (.Name y _) [z, u] [] _] [] _ => decide (x = ("list" : Str)) && glB I.sc x && decide (y = ("range" : Str)) && glB I.sc y && notStar z && notStar u && (chk4 a I).v z && (chk4 b I).v u | _ => false
  | .rng es, I => ckI fun _ e => match e with | .Call (.Name x _) args [] _ => decide (x = ("range" : Str)) && glB I.sc x && args.all notStar && decide (1 ≤ args.length) && decide (args.length ≤ 3) && (chks4 es I).s args | _ => false
  | .zip es, I => ckI fun tg e => match e with | .Call (.Name x _) [a, b] [] _ => decide (x = ("zip" : Str)) && glB I.sc x && isTupE tg && notStar a && notStar b && (chks4 es I).s [a, b] | _ => false
  | .enu es, I => ckI fun tg e => match e with | .Call (.Name x _) [a] [] _ => decide (x = ("enumerate" : Str)) && glB I.sc x && isTupE tg && notStar a && (chks4 es I).s [a] | _ => false
  | .itm a, I => ckI fun tg e => match e with | .Call (.Attribute o name apos) [] [] cpos => decide (name = ("items" : Str)) && isTupE tg && plainBase o && (apos.endLine == cpos.line) && (chk4 a I).v o | _ => false
  | .vals a, I => ckI fun _ e => match e with | .Call (.Attribute o name apos) [] [] cpos => decide (name = ("values" : Str)) && plainBase o && (apos.endLine == cpos.line) && (chk4 a I).v o | _ => false
termination_by structural x => x
def chks4 : Exs → Inf → Cs
  | .nil, _ => ⟨fun es => es.isEmpty, fun _ => false, fun ks vs => ks.isEmpty && vs.isEmpty, fun _ _ => false⟩
  | .cons a r, I => ⟨fun es => match es with | e :: es => notStar e && (chk4 a I).v e && (chks4 r I).s es | [] => false,
      fun es => match r, es with | .nil, [e] => (chk4 a I).v e | .nil, _ => false | _, e :: e' :: es => (chk4 a I).v e && (chks4 r I).a (e' :: es) | _, _ => false,
      fun ks vs => match ks with | some k :: ks => (chk4 a I).v k && (chks4 r I).dv ks vs | _ => false,
      fun ks vs => match vs with | v :: vs => (chk4 a I).v v && (chks4 r I).d ks vs | _ => false⟩
  | .star a r, I => ⟨fun es => match es with | .Starred e _ :: es => (chk4 a I).v e && (chks4 r I).s es | _ => false, fun _ => false, fun _ _ => false, fun _ _ => false⟩
termination_by structural x => x
end
mutual
def chkS : Sm → Inf → Stmt → Bool
  | .skip, _, .Expr (.Constant (.str _) _ _) _ => true
  | .skip, _, .Pass _ => true
  | .doE e, I, .Expr x _ => notComp x && (chk4 fn gn e I).v x
  | .set i e, I, .Assign [.Name x _] v _ => decide (I.N[i]? = some x) && locB I.sc x && (I.st x || isLocal I.sc x) && (chk4 fn gn e I).v v && (notComp v || isLC v)
  | .asg t e, I, .Assign [tg] v _ => isTupE tg && notComp v && !(isTupE v) && chkT I (List.range I.N.length) t tg && (chk4 fn gn e I).v v
  | .setix o i e, I, .Assign [.Subscript a b _] v _ => notSlice b && notComp v && (chk4 fn gn o I).v a && (chk4 fn gn i I).v b && (chk4 fn gn e I).v v
  | .par2 i j e1 e2, I, .Assign [.Tuple [.Name x px, .Name y py] _ _] (.Tuple [a, b] _ _) _ => decide (I.N[i]? = some x) && decide (I.N[j]? = some y) && decide (i ≠ j) && isLocal I.sc x && isLocal I.sc y && notStar a && notStar b && (py.line == px.line) && !([a, b].all (foldedForSure 8)) && !([a, b].all (constantsAlone 8)) && decide (x ≠ y) && (chk4 fn gn e1 I).v a && (chk4 fn gn e2 I).v b
  | .par3 i j l e1 e2 e3, I, .Assign [.Tuple [.Name x px, .Name y py, .Name z pz] _ _] (.Tuple [a, b, c] _ _) _ => decide (I.N[i]? = some x) && decide (I.N[j]? = some y) && decide (I.N[l]? = some z) && decide (i ≠ j) && decide (i ≠ l) && decide (j ≠ l) && isLocal I.sc x && isLocal I.sc y && isLocal I.sc z && notStar a && notStar b && notStar c &&
      (py.line == px.line) && (pz.line == px.line) && !([a, b, c].all (foldedForSure 8)) && !([a, b, c].all (constantsAlone 8)) && decide (x ≠ y) && decide (x ≠ z) && decide (y ≠ z) && (chk4 fn gn e1 I).v a && (chk4 fn gn e2 I).v b && (chk4 fn gn e3 I).v c
  | .parT is es, I, .Assign [.Tuple ts _ _] (.Tuple vs _ _) _ => nmsOk I is ts && noParB I.sc ts vs && vs.all notStar && decide (is.length < 100) && (chks4 fn gn es I).s vs
  | .ret e, I, .Return (some x) _ => (chk4 fn gn e I).v x
  | .retN, _, .Return none _ => true
  | .ifS c a b, I, .If t xs ys _ => (chk4 fn gn c I).v t && chkSs a I xs && chkSs b I ys
  | .forS t it b, I, .For tg iter xs [] _ => notSet iter && chkT I (List.range I.N.length) t tg && (chk4 fn gn it I).i tg iter && chkSs b I xs
  | .whl _ c b, I, .While t xs [] _ => (chk4 fn gn c I).v t && chkSs b I xs
  | .rse g e, I, .Raise (some (.Call (.Name x _) [y] [] _)) none _ => decide (gn g = some x) && glB I.sc x && nameOk x && notStar y && (chk4 fn gn e I).v y
  | .never, _, _ => true
  | _, _, _ => false
termination_by structural x => x
def chkSs : Sms → Inf → List Stmt → Bool
  | .nil, _, [] => true
  | .cons s r, I, x :: xs => chkS s I x && chkSs r I xs
  | _, _, _ => false
termination_by structural x => x
end
end
end Vi
/-! text Vi26 -/
set_option Elab.async false
set_option linter.all false
set_option maxRecDepth 100000
set_option maxHeartbeats 2000000
/-! Vi, part 26: what the comparison gives. -/
namespace Vi
open PySem PySem.Spec PyProof.Rows L2

structure FI where
  x : Str
  f : Addr
  fd : FuncData
  ps : List Str
structure GX (C : Cc) (k : Nat) (fs : List FI) (gn : Nat → Option Str) (gv : Nat → D) (Φ : Nat → Cf) (X : Cx) (I : Inf) (E : XK) : Prop where
  n : X.N = I.N
  nd : I.N.Nodup
  sc : X.env.scope = I.sc
  st : ∀ x, I.st x = true → X.fn x = true
  calm : X.calm = true
  room : RoomG k X.A
  pas : Passes (L2.CX X.prog X.w) X E
  blt : ∀ b ∈ bltNames, X.mg b = none
  fs : ∀ i fi, fs[i]? = some fi → FnG X.prog X.w X.K X.mg X.base (L2.CX X.prog X.w) k fi.f fi.fd fi.ps (spF (wd X C) fi.ps.length (Φ i)) ∧ X.mg fi.x = some (.ref fi.f) ∧ PySem.W.keepIn X.K (.ref fi.f) = true ∧ Binds X.K fi.fd fi.ps []
  k2 : 2 ≤ k
  xi : XisF X.K C (xcN gv)
  xv : XvF X.K C (xcN gv)
  gls : ∀ i x, gn i = some x → ∃ u v, X.mg x = some u ∧ RelV v u ∧ ∀ F μ, DR (wd X C) F μ (gv i) v
def fnO (fs : List FI) (i : Nat) : Option Str := (fs[i]?).map (·.x)
def arO (fs : List FI) (i : Nat) : Nat := ((fs[i]?).map (·.ps.length)).getD 0
section
variable {C : Cc} {k : Nat} {fs : List FI} {gn : Nat → Option Str} {gv : Nat → D} {Φ : Nat → Cf} {X : Cx} {I : Inf} {E : XK}
theorem GX.units (g : GX C k fs gn gv Φ X I E) : X.A.units + 66 < cLine := by have := g.room.1.un; omega
theorem vis_of {sc : Scope} {x : Str} (h : visB sc x = true) : Vis sc x := by
  unfold visB at h
  split at h
  · exact .inl (by assumption)
  · exact .inr (.inl (by assumption))
  · exact .inr (.inr (by assumption))
  · cases h
theorem loc_of {sc : Scope} {x : Str} (h : locB sc x = true) : Loc sc x := by
  unfold locB at h
  split at h
  · exact .inl (by assumption)
  · exact .inr (by assumption)
  · cases h
theorem isLocal_of {sc : Scope} {x : Str} (h : isLocal sc x = true) : sc.names.lookup x = some .local := by
  unfold isLocal at h
  split at h
  · assumption
  · cases h
theorem GX.gl (g : GX C k fs gn gv Φ X I E) {x : Str} (h : glB I.sc x = true) : Gl X x := by
  unfold glB at h
  split at h
  · have : X.env.scope.names.lookup x = some .globalImplicit := by rw [g.sc]; assumption
    exact this
  · cases h
theorem nameOk_of {x : Str} (h : nameOk x = true) : (x == ("__debug__" : Str)) = false ∧ (x == ("__classdict__" : Str)) = false := by
  unfold nameOk at h
  simpa using h
theorem star_of {e : Expr} {es : List Expr} {env : Env} (h : notStar e = true) : starEach (e :: es) env = (false, eval e env) :: starEach es env := by
  cases e <;> first | rfl | cases h
theorem stars_of {es : List Expr} {env : Env} {pos : Pos} (h : es.all notStar = true) : (backTo pos (starEach es env)).any (·.1) = false := by
  induction es with
  | nil => rfl
  | cons e es ih =>
    simp only [List.all_cons, Bool.and_eq_true] at h
    rw [star_of h.1]
    show (false || (backTo pos (starEach es env)).any (·.1)) = false
    rw [ih h.2]; rfl
theorem stars_all {es : List Expr} {env : Env} {pos : Pos} (h : es.all notStar = true) : (backTo pos (starEach es env)).all (fun x => !x.1) = true := by
  induction es with
  | nil => rfl
  | cons e es ih =>
    simp only [List.all_cons, Bool.and_eq_true] at h
    rw [star_of h.1]
    show (!false && (backTo pos (starEach es env)).all (fun x => !x.1)) = true
    rw [ih h.2]; rfl
theorem base_of {e : Expr} {env : Env} {n : Str} (h : plainBase e = true) : attributeBase e n env (eval e env) = eval e env := by
  cases e with
  | Call f args kws pos => cases args with
    | nil => cases h
    | cons a as => first | rfl | (cases f <;> rfl)
  | _ => first | rfl | cases h
theorem set_of {e : Expr} {op : CmpOp} (h : notSet e = true) : behindInMarks op e = false := by cases e <;> first | rfl | cases h
theorem iter_of {e : Expr} {env : Env} (h : notSet e = true) : ∀ x, foldedSetIterable e env x = pure x := fun x => by cases e <;> first | rfl | cases h
theorem ix_of {e : Expr} (h : notSlice e = true) : PlainIx e := fun o i => by cases e <;> first | rfl | cases h
theorem GX.blk (g : GX C k fs gn gv Φ X I E) {scope : Scope} (s : Shared) (H : Hp) (A : Addr) (cl : List (Str × Addr)) (fp : List Addr) : GX C k fs gn gv Φ (X.blk s H scope (compEnvC scope cl A X.env) fp) (I.blk scope) XF where
  n := g.n
  nd := g.nd
  sc := by
    show relabel scope X.env = relS scope I.sc
    unfold relabel relS Env.kindOf
    rw [g.sc]
  st := fun x h => h
  calm := g.calm
  room := g.room
  pas := fun pins σ H s e s' I c => by
    obtain ⟨a, B, H', cls, d, _, _, _, _, _, _, _, z⟩ := c
    exact z.elim
  blt := g.blt
  fs := g.fs
  k2 := g.k2
  xi := g.xi
  xv := g.xv
  gls := g.gls
theorem constOk_of {d : D} {c : Const} (h : constOk d c = true) {j : Nat} {pos : Pos} : PE X (.Constant c j pos) (tE (wd X C) E (mC d)) := by
  unfold constOk at h
  split at h
  · simp only [decide_eq_true_eq] at h; subst h; exact se_int
  · simp only [beq_iff_eq] at h; subst h; exact se_bl
  · exact se_non
  · simp only [decide_eq_true_eq] at h; subst h; exact se_str
  · cases h
theorem se_ty {n : String} {x : Str} {pos : Pos} (g : GX C k fs gn gv Φ X I E) (h : tyNames.contains (n, x) = true) (hg : glB I.sc x = true) : PE X (.Name x pos) (tE (wd X C) E (mC (.ty n))) := by
  have hg' := g.gl hg
  have h' : (n, x) ∈ tyNames := by simpa using h
  have key : ∀ (n : String) (x : Str), x ∈ bltNames → Gl X x → bootBuiltins x = some (.type n) → x ≠ "__name__" → (x == ("__debug__" : Str)) = false → PE X (.Name x pos) (tE (wd X C) E (mC (.ty n))) := fun n x hb hg hv hn hd =>
    se_c (pe_bltn hg (g.blt x hb) hv (v := .ty n) rfl hn hd) (fun _ _ _ h => h) fun _ _ => .ty n
  simp only [tyNames, List.mem_cons, Prod.mk.injEq, List.not_mem_nil, or_false] at h'
  rcases h' with ⟨rfl, rfl⟩ | ⟨rfl, rfl⟩ | ⟨rfl, rfl⟩ | ⟨rfl, rfl⟩ | ⟨rfl, rfl⟩ | ⟨rfl, rfl⟩
  · exact key _ _ (by decide) hg' PyProof.Rows.boot_int (by decide) (by decide)
  · exact key _ _ (by decide) hg' PyProof.Rows.boot_bool (by decide) (by decide)
  · exact key _ _ (by decide) hg' PyProof.Rows.boot_str (by decide) (by decide)
  · exact key _ _ (by decide) hg' PyProof.Rows.boot_tuple (by decide) (by decide)
  · exact key _ _ (by decide) hg' PyProof.Rows.boot_list (by decide) (by decide)
  · exact key _ _ (by decide) hg' PyProof.Rows.boot_dict (by decide) (by decide)
theorem bi_ok (b : Bi) {e : Expr} {es : List Expr} {m : M (List O)} {p pos : Pos} (g : GX C k fs gn gv Φ X I E) (hg : glB I.sc b.nm = true) (he : notStar e = true) (hes : es.all notStar = true) (ha : PA X (e :: es) (tA (wd X C) E m)) :
    PE X (.Call (.Name b.nm p) (e :: es) [] pos) (tE (wd X C) E (mBi (b.k (xcN gv)) m)) := by
  have hg' := g.gl hg
  have s1 : starEach (e :: es) X.env = (false, eval e X.env) :: starEach es X.env := star_of he
  have s2 : (backTo pos (starEach es X.env)).any (·.1) = false := stars_of hes
  cases b with
  | len => exact se_biB cr_len hg' (g.blt _ (by decide)) PySem.boot_len ha (by decide) (by decide) s1 s2
  | abs => exact se_biB cr_abs hg' (g.blt _ (by decide)) (by decide +kernel) ha (by decide) (by decide) s1 s2
  | int => exact se_biT cr_int hg' (g.blt _ (by decide)) PyProof.Rows.boot_int ha (by decide) (by decide) s1 s2
  | max => exact se_biB (cr_maxX g.calm g.units) hg' (g.blt _ (by decide)) PyProof.Rows.boot_max ha (by decide) (by decide) s1 s2
  | min => exact se_biB (cr_minX g.calm g.units) hg' (g.blt _ (by decide)) PyProof.Rows.boot_min ha (by decide) (by decide) s1 s2
  | sum => exact se_biB (cr_sum' g.calm) hg' (g.blt _ (by decide)) PyProof.Rows.boot_sum ha (by decide) (by decide) s1 s2
  | all => exact se_biB (cr_all' g.calm) hg' (g.blt _ (by decide)) (by decide +kernel) ha (by decide) (by decide) s1 s2
  | any => exact se_biB (cr_any' g.calm) hg' (g.blt _ (by decide)) (by decide +kernel) ha (by decide) (by decide) s1 s2
  | sorted => exact se_biB (cr_srt g.calm g.units) hg' (g.blt _ (by decide)) PyProof.Rows.boot_sorted ha (by decide) (by decide) s1 s2
  | tuple => exact se_biT cr_tup' hg' (g.blt _ (by decide)) PyProof.Rows.boot_tuple ha (by decide) (by decide) s1 s2
  | list => exact se_biT cr_lst' hg' (g.blt _ (by decide)) PyProof.Rows.boot_list ha (by decide) (by decide) s1 s2
  | dict => exact se_biT (cr_dct g.calm g.units) hg' (g.blt _ (by decide)) PyProof.Rows.boot_dict ha (by decide) (by decide) s1 s2
  | repr => exact se_biB (cr_repr g.room.2 g.units) hg' (g.blt _ (by decide)) (by decide +kernel) ha (by decide) (by decide) s1 s2
  | isi => exact se_biB (callW ((cr_isx g.xi).or cr_isi) fun xs H Q => rB_or fun ds => by
      show kIsiX (xcN gv) ds = _ ∨ kIsiX (xcN gv) ds = _
      unfold kIsiX
      split
      · exact .inl rfl
      · exact .inr rfl) hg' (g.blt _ (by decide)) PyProof.Rows.boot_isinstance ha (by decide) (by decide) s1 s2
end
end Vi
/-! text Vi27 -/
set_option Elab.async false
set_option linter.all false
set_option maxRecDepth 100000
set_option maxHeartbeats 1000000
/-! Vi, part 27: the expressions. -/
namespace Vi
open PySem PySem.Spec PyProof.Rows L2

section
variable {C : Cc} {k : Nat} {fs : List FI} {gn : Nat → Option Str} {gv : Nat → D} {Φ : Nat → Cf}
theorem assign_of {e : Expr} {es : List Expr} {env : Env} (h : notStar e = true) : (assignEach (e :: es) env).map (·.2) = assign e env :: (assignEach es env).map (·.2) := by cases e <;> first | rfl | cases h
mutual
theorem tg_ok {ws : List Nat} : ∀ (t : Tg) {e : Expr} {X : Cx} {I : Inf} {E : XK}, GX C k fs gn gv Φ X I E → chkT I ws t e = true → PG X e (tGt (wd X C) ws (gT t))
  | .nm i, e, X, I, E, g, h => by
    cases e with
    | Name x p =>
      simp only [chkT, Bool.and_eq_true, decide_eq_true_eq, Bool.or_eq_true] at h
      obtain ⟨⟨⟨h1, h2⟩, h3⟩, h4⟩ := h
      exact sg_name (by rw [g.n]; exact g.nd) (by rw [g.n]; exact h1) (by rw [g.sc]; exact loc_of h2) (h3.elim (fun z => .inl (g.st x z)) fun z => .inr (by rw [g.sc]; exact isLocal_of z)) (by simpa using h4)
    | _ => cases h
  | .tp ts, e, X, I, E, g, h => by
    cases e with
    | Tuple es kk pos =>
      have h : chkTs I ws ts es = true := h
      obtain ⟨h1, h2, h3⟩ := tgs_ok ts g h
      exact sg_tup g.calm h1 h2 h3
    | _ => cases h
theorem tgs_ok {ws : List Nat} : ∀ (ts : Tgs) {es : List Expr} {X : Cx} {I : Inf} {E : XK}, GX C k fs gn gv Φ X I E → chkTs I ws ts es = true →
    PGs X es (tGs (wd X C) ws (gTs ts)) ∧ (assignEach es X.env).length = ts.len ∧ (assignEach es X.env).findIdx? (·.1) = none
  | .nil, es, X, I, E, g, h => by
    cases es with
    | nil => exact ⟨sgs_nil, rfl, rfl⟩
    | cons e es => cases h
  | .cons t ts, es, X, I, E, g, h => by
    cases es with
    | nil => cases h
    | cons e es =>
      simp only [chkTs, Bool.and_eq_true] at h
      obtain ⟨⟨h0, h1⟩, h2⟩ := h
      obtain ⟨k1, k2, k3⟩ := tgs_ok ts g h2
      have ea : assignEach (e :: es) X.env = (false, assign e X.env) :: assignEach es X.env := by cases e <;> first | rfl | cases h0
      refine ⟨sgs_cons (tg_ok t g h1) k1 (assign_of h0), by rw [ea]; exact congrArg (· + 1) k2, ?_⟩
      rw [ea, List.findIdx?_cons, k3]; rfl
end
theorem gT_nox : ∀ t : Tg, NoX (gT t) := by
  have : (∀ t : Tg, NoX (gT t)) ∧ ∀ ts : Tgs, ∀ ds s c v s', gTs ts ds s ≠ .exc c v s' := by
    refine ⟨fun t => Tg.rec (motive_1 := fun t => NoX (gT t)) (motive_2 := fun ts => ∀ ds s c v s', gTs ts ds s ≠ .exc c v s') ?_ ?_ ?_ ?_ t, fun ts => Tgs.rec (motive_1 := fun t => NoX (gT t)) (motive_2 := fun ts => ∀ ds s c v s', gTs ts ds s ≠ .exc c v s') ?_ ?_ ?_ ?_ ts⟩
    all_goals first
      | (intro i d s c v s' z; cases z; done)
      | (intro ts ih d s c v s' z
         cases d with
         | tup xs => simp only [gT, gTp] at z; split at z <;> first | exact ih _ _ _ _ _ z | cases z
         | lst xs => simp only [gT, gTp] at z; split at z <;> first | exact ih _ _ _ _ _ z | cases z
         | _ => cases z)
      | (intro ds s c v s' z; cases ds <;> cases z; done)
      | (intro t ts h1 h2 ds s c v s' z
         cases ds with
         | nil => cases z
         | cons d ds =>
           simp only [gTs, gCn, Vi.bind] at z
           cases e : gT t d s with
           | ok a s1 => rw [e] at z; exact h2 _ _ _ _ _ z
           | exc c1 d1 s1 => exact h1 _ _ _ _ _ e
           | fail => rw [e] at z; cases z)
  exact this.1
theorem no_reading {X : Cx} {e : Expr} {W : Wd} {E : XK} : PE X e (tE W E fail) := ⟨fun pins s σ H Q I ⟨F, μ, S, R, p⟩ => p.elim⟩
theorem no_test {X : Cx} {e : Expr} {W : Wd} {E : XK} : PT X e (tT W E fail) := ⟨fun pins s σ H Q I ⟨F, μ, S, R, p⟩ => p.elim⟩
theorem no_iter {X : Cx} {tg e : Expr} {W : Wd} {E : XK} : PI X tg e (tI W E fail) := ⟨fun pins s σ H Q I ⟨F, μ, S, R, p⟩ => p.elim⟩
theorem one_op {X : Cx} {e : Expr} {op : BoolOp} {t : TE} {pos : Pos} (h : PE X e t) : PE X (.BoolOp op [e] pos) t := ⟨fun pins s σ H Q I hw => BoolOp_one (h.run pins s σ H Q I hw)⟩
theorem isTrue_of {x : Ex} {e : Expr} {env : Env} (h : match e with | .UnaryOp .Not _ _ => False | .BoolOp _ _ _ => False | .IfExp _ _ _ _ => False | .Compare _ _ _ _ => False | _ => True) : ∀ whole, isTrue e env whole = (do let v ← whole; standAt e.pos; holding [v] (truthy v)) := fun whole => by
  cases e with
  | UnaryOp op a p => cases op <;> first | rfl | exact h.elim
  | BoolOp _ _ _ => exact h.elim
  | IfExp _ _ _ _ => exact h.elim
  | Compare _ _ _ _ => exact h.elim
  | _ => rfl
/-- all that one's own expression says -/
structure Ok4 (C : Cc) (X : Cx) (E : XK) (c : Ck) (r : Rg) : Prop where
  v : ∀ e, c.v e = true → PE X e (tE (wd X C) E r.v)
  t : ∀ e, c.v e = true → PT X e (tT (wd X C) E r.t)
  i : ∀ tg e, c.i tg e = true → PI X tg e (tI (wd X C) E r.i)
  p : ∀ o, c.p o = true → PO X o (tG (wd X C) E RP r.p)
  c : ∀ es, c.c es = true → PTs X es (tT (wd X C) E r.c)
structure Oks (C : Cc) (X : Cx) (E : XK) (c : Cs) (r : Rs) : Prop where
  s : ∀ es, c.s es = true → PA X es (tDs (wd X C) E r.vs) ∧ es.length = r.n
  o : ∀ es, es.all notStar = true → c.s es = true → PA X es (tA (wd X C) E r.os)
  n : ∀ es, es.all notStar = true → c.s es = true → PA X es (tG (wd X C) E (ORn (wd X C)) r.os)
  av : ∀ es pos, c.a es = true → PE X (.BoolOp .And es pos) (tE (wd X C) E r.av)
  ov : ∀ es pos, c.a es = true → PE X (.BoolOp .Or es pos) (tE (wd X C) E r.ov)
  at_ : ∀ es pos, c.a es = true → PW X (.BoolOp .And es pos) (tT (wd X C) E r.at_)
  ot : ∀ es pos, c.a es = true → PW X (.BoolOp .Or es pos) (tT (wd X C) E r.ot)
  d : ∀ ks vs pos, c.d ks vs = true → ∃ pairs, PPr X pairs (tDs (wd X C) E r.vs) ∧ ((evalEachOpt ks X.env).zip ((evalEach vs X.env).map fun v => do let x ← v; standAt pos; pure x) = pairs.map fun p => (some p.1, p.2)) ∧ pairs.length = ks.length
  dv : ∀ ks vs pos, c.dv ks vs = true → ∃ (mv : M O) (mr : M (List D)), r.vs = mCons mv mr ∧ ∃ v vs', vs = v :: vs' ∧ PE X v (tE (wd X C) E mv) ∧ ∃ pairs, PPr X pairs (tDs (wd X C) E mr) ∧ ((evalEachOpt ks X.env).zip ((evalEach vs' X.env).map fun v => do let x ← v; standAt pos; pure x) = pairs.map fun p => (some p.1, p.2)) ∧ pairs.length = ks.length
section
variable {X : Cx} {I : Inf} {E : XK}
theorem okV {f : Expr → Bool} {m : M O} (h : ∀ e, f e = true → PE X e (tE (wd X C) E m)) (ht : ∀ e, f e = true → match e with | .UnaryOp .Not _ _ => False | .BoolOp _ _ _ => False | .IfExp _ _ _ _ => False | .Compare _ _ _ _ => False | _ => True) : Ok4 C X E (ckV f) (rgV m) := by
  have t : ∀ e, f e = true → PT X e (tT (wd X C) E (mTest m)) := fun e he => st_truth (h e he) (isTrue_of (x := .no) (ht e he))
  refine ⟨h, t, fun tg e he => si_val (h e he), fun o ho => ?_, fun es hs => ?_⟩
  · cases o with
    | none => cases ho
    | some e => exact so_some (h e ho)
  · match es, hs with
    | [e], hs => exact sc_one (t e hs)
theorem okT {f : Expr → Bool} {m : M O} {mt : M Bool} (h : ∀ e, f e = true → PE X e (tE (wd X C) E m)) (t : ∀ e, f e = true → PT X e (tT (wd X C) E mt)) : Ok4 C X E (ckV f) (rgT m mt) := by
  refine ⟨h, t, fun tg e he => si_val (h e he), fun o ho => ?_, fun es hs => ?_⟩
  · cases o with
    | none => cases ho
    | some e => exact so_some (h e ho)
  · match es, hs with
    | [e], hs => exact sc_one (t e hs)
theorem okI {f : Expr → Expr → Bool} {m : M (List D)} (h : ∀ tg e, f tg e = true → PI X tg e (tI (wd X C) E m)) : Ok4 C X E (ckI f) (rgI m) :=
  ⟨fun e he => (by cases he), fun e he => (by cases he), h, fun o ho => (by cases ho), fun es hs => (by cases hs)⟩
theorem testB {m : M O} {σ : L2.St} {H : Hp} {Q : Bool → Hp → Prop} (h : tT (wd X C) E (mTestB m) σ H Q) : tE (wd X C) E m σ H fun x H' => ∃ k, x = .bl k ∧ Q k H' := by
  obtain ⟨F, μ, S, R, p⟩ := h
  refine ⟨F, μ, S, R, (Post.bind p).mono fun v H1 ⟨o, F1, μ1, S1, r1, t1, n1, p1⟩ => ?_⟩
  cases o with
  | v d =>
    cases d with
    | bl b => cases r1; exact ⟨b, rfl, Post.ret p1 t1.rel (b := b) rfl⟩
    | _ => exact p1.elim
  | _ => exact p1.elim
theorem st_cmp {a b : Expr} {ma mb : M O} {pos : Pos} (hu : X.A.units + 66 < cLine) (op : Cm) (hm : behindInMarks op.py b = false) (ha : PE X a (tE (wd X C) E ma)) (hb : PE X b (tE (wd X C) E mb)) : PT X (.Compare a [op.py] [b] pos) (tT (wd X C) E (mTestB (mCmp op ma mb))) :=
  ptW (pt_cmpR (op_cm (C := C) hu op) ha hb hm) fun σ H Q h => opBin (fun R h1 h2 p => k_cm op R h1 h2 p) (testB h)
theorem st_chn {a b c : Expr} {ma mb mc : M O} {pos : Pos} {op op' : Cm} (hu : X.A.units + 66 < cLine) (hm : lastMarks [op.py, op'.py] [b, c] = false) (ha : PE X a (tE (wd X C) E ma)) (hb : PE X b (tE (wd X C) E mb)) (hc : PE X c (tE (wd X C) E mc)) :
    PT X (.Compare a [op.py, op'.py] [b, c] pos) (tT (wd X C) E (mTestB (mChn op op' ma mb mc))) :=
  ptW (pt_chain (op_cm (C := C) hu op) (op_cm (C := C) hu op') ha hb hc hm) fun σ H Q h => se_chn.chn (testB h)
theorem Post.newD {W : Wd} {F : Hp} {μ : List Addr} {S : St} {σ : L2.St} {H : Hp} {Q : VK} {p : Addr} (h : Post W E (OR W) (Vi.ret (.w (.dct [] []))) F μ S σ H Q) (R : Rel W F μ S σ H) (hp : H p = none) : Q (.ref p) (upd H p (.dK [])) :=
  h F μ _ _ (Step.new R hp) (Ne.refl S) ⟨p, rfl, .inl ⟨[], upd_same, .nil⟩, fun z => R.muTrk z hp, R.noF hp, fun z => R.ownTrk z hp, hp⟩
theorem se_dct0 {pos : Pos} : PE X (.Dict [] [] pos) (tE (wd X C) E mDct0) := peW pe_dnewK fun σ H Q ⟨F, μ, S, R, p⟩ => fun q hq => Post.newD p R hq
theorem st_ife {a b c : Expr} {mc ma mb : M Bool} {pos : Pos} (hc : PT X c (tT (wd X C) E mc)) (ha : PT X a (tT (wd X C) E ma)) (hb : PT X b (tT (wd X C) E mb)) : PT X (.IfExp c a b pos) (tT (wd X C) E (mIfeT mc ma mb)) := ⟨fun pins s σ H Q I ⟨F, μ, S, R, p⟩ => by
  show wpAny _ _ (do if ← isTrue c X.env (eval c X.env) then isTrue a X.env (eval a X.env) else isTrue b X.env (eval b X.env)) _ _ _
  refine wpAny_bind (thn (hc.run pins s σ H _ I ⟨F, μ, S, R, Post.bind p⟩) fun k s1 ⟨H1, I1, k', F1, μ1, S1, r1, t1, n1, p1⟩ => ?_)
  obtain rfl : k' = k := r1
  cases k' with
  | true => exact ha.run pins s1 σ H1 Q I1 ⟨F1, μ1, S1, t1.rel, p1⟩
  | false => exact hb.run pins s1 σ H1 Q I1 ⟨F1, μ1, S1, t1.rel, p1⟩⟩
theorem no_nth {α : Type} {p : Prop} (h : (false : Bool) = true) : p := nomatch h
mutual
theorem ex_ok : ∀ (x : Ex) {X : Cx} {I : Inf} {E : XK}, GX C k fs gn gv Φ X I E → Ok4 C X E (chk4 (fnO fs) gn x I) (ev4 gv (arO fs) Φ x)
  | .var i, X, I, E, g => okV (fun e h => by
      cases e with
      | Name x p =>
        simp only [Bool.and_eq_true, decide_eq_true_eq] at h
        exact se_var (by rw [g.n]; exact h.1.1) (by rw [g.sc]; exact vis_of h.1.2) (nameOk_of h.2).1 (nameOk_of h.2).2
      | _ => cases h) fun e h => by cases e <;> first | trivial | cases h
  | .c d, X, I, E, g => okV (fun e h => by
      cases e with
      | Constant c j p => exact constOk_of h
      | _ => cases h) fun e h => by cases e <;> first | trivial | cases h
  | .ty n, X, I, E, g => okV (fun e h => by
      cases e with
      | Name x p =>
        simp only [Bool.and_eq_true] at h
        exact se_ty g h.1 h.2
      | _ => cases h) fun e h => by cases e <;> first | trivial | cases h
  | .gl i, X, I, E, g => okV (fun e h => by
      cases e with
      | Name x p =>
        simp only [Bool.and_eq_true, decide_eq_true_eq] at h
        obtain ⟨u, v, h1, h2, h3⟩ := g.gls i x h.1.1
        exact se_glob (g.gl h.1.2) h1 h2 h3 (nameOk_of h.2).1
      | _ => cases h) fun e h => by cases e <;> first | trivial | cases h
  | .no, X, I, E, g => by
      refine ⟨fun e h => ?_, fun e h => ?_, fun tg e h => ?_, fun o h => ?_, fun es h => ?_⟩
      · cases h
      · cases h
      · cases h
      · cases o with
        | none => exact so_none
        | some e => cases h
      · cases es with
        | nil => exact sc_nil
        | cons e es => cases h
  | .bin o a b, X, I, E, g => okV (fun e h => by
      cases e with
      | BinOp l op r p =>
        simp only [Bool.and_eq_true, decide_eq_true_eq] at h
        obtain ⟨⟨rfl, h1⟩, h2⟩ := h
        exact se_bin o ((ex_ok a g).v _ h1) ((ex_ok b g).v _ h2)
      | _ => cases h) fun e h => by cases e <;> first | trivial | cases h
  | .neg a, X, I, E, g => okV (fun e h => by
      cases e with
      | UnaryOp op e p => cases op <;> first | exact se_neg ((ex_ok a g).v _ h) | cases h
      | _ => cases h) fun e h => by
      cases e with
      | UnaryOp op e p => cases op <;> first | trivial | cases h
      | _ => first | trivial | cases h
  | .not a, X, I, E, g => okT (fun e h => by
      cases e with
      | UnaryOp op e p => cases op <;> first | exact se_not ((ex_ok a g).v _ h) | cases h
      | _ => cases h) fun e h => by
      cases e with
      | UnaryOp op e p => cases op <;> first | exact st_not ((ex_ok a g).t _ h) | cases h
      | _ => cases h
  | .and es, X, I, E, g => okT (fun e h => by
      cases e with
      | BoolOp op xs p => cases op <;> first | exact (exs_ok es g).av _ _ h | cases h
      | _ => cases h) fun e h => by
      cases e with
      | BoolOp op xs p => cases op <;> first | exact ((exs_ok es g).at_ _ _ h).pt | cases h
      | _ => cases h
  | .or es, X, I, E, g => okT (fun e h => by
      cases e with
      | BoolOp op xs p => cases op <;> first | exact (exs_ok es g).ov _ _ h | cases h
      | _ => cases h) fun e h => by
      cases e with
      | BoolOp op xs p => cases op <;> first | exact ((exs_ok es g).ot _ _ h).pt | cases h
      | _ => cases h
  | .cmp o a b, X, I, E, g => okT (fun e h => by
      split at h
      · simp only [Bool.and_eq_true, decide_eq_true_eq] at h
        obtain ⟨⟨⟨rfl, h0⟩, h1⟩, h2⟩ := h
        exact se_cmp g.units o (set_of h0) ((ex_ok a g).v _ h1) ((ex_ok b g).v _ h2)
      · cases h) fun e h => by
      split at h
      · simp only [Bool.and_eq_true, decide_eq_true_eq] at h
        obtain ⟨⟨⟨rfl, h0⟩, h1⟩, h2⟩ := h
        exact st_cmp g.units o (set_of h0) ((ex_ok a g).v _ h1) ((ex_ok b g).v _ h2)
      · cases h
  | .chn o o' a b c, X, I, E, g => okT (fun e h => by
      split at h
      · simp only [Bool.and_eq_true, decide_eq_true_eq] at h
        obtain ⟨⟨⟨⟨⟨rfl, rfl⟩, h0⟩, h1⟩, h2⟩, h3⟩ := h
        exact se_chn g.units (by show behindInMarks o'.py _ = false; exact set_of h0) ((ex_ok a g).v _ h1) ((ex_ok b g).v _ h2) ((ex_ok c g).v _ h3)
      · cases h) fun e h => by
      split at h
      · simp only [Bool.and_eq_true, decide_eq_true_eq] at h
        obtain ⟨⟨⟨⟨⟨rfl, rfl⟩, h0⟩, h1⟩, h2⟩, h3⟩ := h
        exact st_chn g.units (by show behindInMarks o'.py _ = false; exact set_of h0) ((ex_ok a g).v _ h1) ((ex_ok b g).v _ h2) ((ex_ok c g).v _ h3)
      · cases h
  | .ife c a b, X, I, E, g => okT (fun e h => by
      cases e with
      | IfExp t x y p =>
        simp only [Bool.and_eq_true] at h
        exact se_ife ((ex_ok c g).t _ h.1.1) ((ex_ok a g).v _ h.1.2) ((ex_ok b g).v _ h.2)
      | _ => cases h) fun e h => by
      cases e with
      | IfExp t x y p =>
        simp only [Bool.and_eq_true] at h
        exact st_ife ((ex_ok c g).t _ h.1.1) ((ex_ok a g).t _ h.1.2) ((ex_ok b g).t _ h.2)
      | _ => cases h
  | .idx a b, X, I, E, g => okV (fun e h => by
      cases e with
      | Subscript o i p =>
        simp only [Bool.and_eq_true] at h
        exact se_idx g.units (ix_of h.1.1) ((ex_ok a g).v _ h.1.2) ((ex_ok b g).v _ h.2)
      | _ => cases h) fun e h => by cases e <;> first | trivial | cases h
  | .sli a lo hi, X, I, E, g => okV (fun e h => by
      split at h
      · simp only [Bool.and_eq_true] at h
        exact se_sli ((ex_ok a g).v _ h.1.1) ((ex_ok lo g).p _ h.1.2) ((ex_ok hi g).p _ h.2)
      · cases h) fun e h => by
      split at h
      · trivial
      · cases h
  | .rev a, X, I, E, g => okV (fun e h => by
      split at h
      · exact se_rev ((ex_ok a g).v _ h)
      · cases h) fun e h => by
      split at h
      · trivial
      · cases h
  | .slr a lo hi, X, I, E, g => okV (fun e h => by
      split at h
      · simp only [Bool.and_eq_true] at h
        exact se_slr ((ex_ok a g).v _ h.1.1) ((ex_ok lo g).p _ h.1.2) ((ex_ok hi g).p _ h.2)
      · cases h) fun e h => by
      split at h
      · trivial
      · cases h
  | .shr a, X, I, E, g => okV (fun e h => by
      rw [Bool.and_eq_true] at h
      exact se_shr ((ex_ok a g).v _ h.2)) fun e h => by
      rw [Bool.and_eq_true, Bool.and_eq_true] at h
      cases e <;> first | trivial | exact nomatch h.1.2
  | .xv a, X, I, E, g => okV (fun e h => by
      split at h
      · simp only [Bool.and_eq_true, decide_eq_true_eq] at h
        obtain ⟨⟨rfl, h1⟩, h2⟩ := h
        exact se_xv g.xv ((ex_ok a g).v _ h2) (base_of h1)
      · cases h) fun e h => by
      split at h
      · trivial
      · cases h
  | .tup es, X, I, E, g => okV (fun e h => by
      cases e with
      | Tuple xs j p => exact se_tup ((exs_ok es g).s _ h).1
      | _ => cases h) fun e h => by cases e <;> first | trivial | cases h
  | .lst es, X, I, E, g => okV (fun e h => by
      cases e with
      | List xs p => exact se_lst ((exs_ok es g).s _ h).1
      | _ => cases h) fun e h => by cases e <;> first | trivial | cases h
  | .dct0, X, I, E, g => okV (fun e h => by
      split at h
      · exact se_dct0
      · cases h) fun e h => by
      split at h
      · trivial
      · cases h
  | .dsp es, X, I, E, g => okV (fun e h => by
      cases e with
      | Dict ks vs pos =>
        simp only [Bool.and_eq_true, decide_eq_true_eq] at h
        obtain ⟨pairs, h1, h2, h3⟩ := (exs_ok es g).d ks vs pos h.2
        exact se_dsp g.units h1 h2 (fun z => by rw [z] at h3; have := h.1.1; simp at h3; omega) (by rw [h3]; exact h.1.2)
      | _ => cases h) fun e h => by cases e <;> first | trivial | cases h
  | .call f es, X, I, E, g => okV (fun e h => by
      split at h
      · rename_i x p args pos
        simp only [Bool.and_eq_true, decide_eq_true_eq] at h
        obtain ⟨⟨⟨⟨h1, h2⟩, h3⟩, h4⟩, h5⟩ := h
        obtain ⟨k1, k2⟩ := (exs_ok es g).s _ h5
        unfold fnO at h1
        obtain ⟨fi, e1, rfl⟩ := Option.map_eq_some_iff.mp h1
        obtain ⟨q1, q2, q3, q4⟩ := g.fs f fi e1
        have ea : arO fs f = fi.ps.length := by unfold arO; rw [e1]; rfl
        show PE X _ (tE (wd X C) E (mCall (arO fs f) (Φ f) _))
        rw [ea]
        cases args with
        | nil =>
          have e0 : es = .nil := by
            cases es with
            | nil => rfl
            | cons a r => cases h5
            | star a r => cases h5
          subst e0
          exact se_call0G q1 g.room (g.gl h2) q2 q3 q4 g.pas (nameOk_of h3).1
        | cons a args =>
          simp only [List.all_cons, Bool.and_eq_true] at h4
          exact se_callG q1 g.room (g.gl h2) q2 q3 q4 g.pas k1 (nameOk_of h3).1 (star_of h4.1) (stars_of h4.2)
      · cases h) fun e h => by
      split at h
      · trivial
      · cases h
  | .bi b es, X, I, E, g => okV (fun e h => by
      split at h
      · simp only [Bool.and_eq_true, decide_eq_true_eq] at h
        obtain ⟨⟨⟨⟨rfl, h1⟩, h2⟩, h3⟩, h4⟩ := h
        exact bi_ok b g h1 h2 h3 ((exs_ok es g).o _ (by simp only [List.all_cons, h2, h3, Bool.and_self]) h4)
      · cases h) fun e h => by
      split at h
      · trivial
      · cases h
  | .me m a es, X, I, E, g => okV (fun e h => by
      split at h
      · rename_i o name apos args cpos
        simp only [Bool.and_eq_true, decide_eq_true_eq] at h
        obtain ⟨⟨⟨⟨⟨⟨⟨rfl, h1⟩, h2⟩, h3⟩, h4⟩, h5⟩, h6⟩, h7⟩ := h
        have ho := (ex_ok a g).v _ h6
        have few : ∀ (x : Expr) (xs : List Expr), args = x :: xs → ((backTo cpos (starEach (x :: xs) X.env)).all (fun x => !x.1) && (backToKw cpos (keywordEach [] X.env)).all (fun x => x.1.isSome) && decide ((x :: xs).length + ([] : List Keyword).length + (if ([] : List Keyword).isEmpty then 0 else 1) < 30)) = true := fun x xs e => by
          rw [← e, stars_all h3]
          have : args.length < 30 := by omega
          simp [backToKw, keywordEach, this]
        cases m with
        | pop =>
          cases args with
          | nil => exact se_me0 (kd := .l) PySem.F.plainAttrs_list PySem.F.slot_list_pop PySem.F.type_list_pop mr_pop ho (base_of h1) h2
          | cons x xs => cases h5
        | append =>
          cases args with
          | nil => cases h5
          | cons x xs =>
            have h3' := h3
            simp only [List.all_cons, Bool.and_eq_true] at h3'
            exact se_me (kd := .l) PySem.F.plainAttrs_list PySem.F.slot_list_append PySem.F.type_list_append mr_append ho ((exs_ok es g).s _ h7).1 (base_of h1) (few _ _ rfl) h2 (star_of h3'.1) (stars_of h3'.2)
        | get =>
          cases args with
          | nil => cases h5
          | cons x xs =>
            have h3' := h3
            simp only [List.all_cons, Bool.and_eq_true] at h3'
            exact se_me (kd := .d) PySem.F.plainAttrs_dict PySem.F.slot_dict_get PySem.F.type_dict_get (mr_get g.units) ho ((exs_ok es g).s _ h7).1 (base_of h1) (few _ _ rfl) h2 (star_of h3'.1) (stars_of h3'.2)
        | update =>
          cases args with
          | nil => cases h5
          | cons x xs =>
            have h3' := h3
            simp only [List.all_cons, Bool.and_eq_true] at h3'
            exact se_me (kd := .d) PySem.F.plainAttrs_dict PySem.F.slot_dict_update PySem.F.type_dict_update mr_update ho ((exs_ok es g).s _ h7).1 (base_of h1) (few _ _ rfl) h2 (star_of h3'.1) (stars_of h3'.2)
        | extend =>
          cases args with
          | nil => cases h5
          | cons x xs =>
            have h3' := h3
            simp only [List.all_cons, Bool.and_eq_true] at h3'
            exact se_mr (kd := .l) PySem.F.plainAttrs_list PySem.F.slot_list_extend PySem.F.type_list_extend mr_extend ho ((exs_ok es g).o _ h3 h7) (base_of h1) (few _ _ rfl) h2 (star_of h3'.1) (stars_of h3'.2)
      · cases h) fun e h => by
      split at h
      · trivial
      · cases h
  | .lc vs t it cd e, X, I, E, g => okV (fun x h => by
      split at h
      · rename_i elt tg iter ifs scope pos
        simp only [Bool.and_eq_true] at h
        obtain ⟨⟨⟨⟨⟨h1, h2⟩, h3⟩, h4⟩, h5⟩, h6⟩ := h
        have eo : (vs.map fun i => (I.N.getD i "", i)).map (·.2) = vs := by rw [List.map_map]; exact List.map_id _
        have q := se_lc (own := vs.map fun i => (I.N.getD i "", i)) (ws := vs) g.calm (by rw [g.n]; exact g.nd) ((ex_ok it g).i _ _ h4) (by rw [g.n, g.sc]; exact blkOk_by h1) (by rw [eo]; exact fun i hi => hi)
          (fun s H A cl fp => tg_ok t (g.blk s H A cl fp) h3) (fun s H A cl fp => (ex_ok cd (g.blk s H A cl fp)).c _ h5) (fun s H A cl fp => (ex_ok e (g.blk s H A cl fp)).v _ h6) (pos := pos) (iter_of h2)
        rw [eo] at q
        exact q
      · cases h) fun e h => by
      split at h
      · trivial
      · cases h
  | .dc vs t it cd k e, X, I, E, g => okV (fun x h => by
      split at h
      · rename_i kx vx tg iter ifs scope pos
        simp only [Bool.and_eq_true] at h
        obtain ⟨⟨⟨⟨⟨⟨h1, h2⟩, h3⟩, h4⟩, h5⟩, h6⟩, h7⟩ := h
        have eo : (vs.map fun i => (I.N.getD i "", i)).map (·.2) = vs := by rw [List.map_map]; exact List.map_id _
        have q := se_dc (own := vs.map fun i => (I.N.getD i "", i)) (ws := vs) g.units g.calm (by rw [g.n]; exact g.nd) ((ex_ok it g).i _ _ h4) (by rw [g.n, g.sc]; exact blkOk_by h1) (by rw [eo]; exact fun i hi => hi)
          (fun s H A cl fp => tg_ok t (g.blk s H A cl fp) h3) (fun s H A cl fp => (ex_ok cd (g.blk s H A cl fp)).c _ h5) (fun s H A cl fp => (ex_ok k (g.blk s H A cl fp)).v _ h6) (fun s H A cl fp => (ex_ok e (g.blk s H A cl fp)).v _ h7) (pos := pos) (iter_of h2)
        rw [eo] at q
        exact q
      · cases h) fun e h => by
      split at h
      · trivial
      · cases h
  | .lrg1 a, X, I, E, g => okV (fun e h => by
      split at h
      · simp only [Bool.and_eq_true, decide_eq_true_eq] at h
        obtain ⟨⟨⟨⟨⟨rfl, h1⟩, rfl⟩, h2⟩, h3⟩, h4⟩ := h
        exact se_lrg1 g.calm (g.gl h1) (g.blt _ (by decide)) (g.gl h2) (g.blt _ (by decide)) ((ex_ok a g).v _ h4) (star_of h3)
      · cases h) fun e h => by
      split at h
      · trivial
      · cases h
  | .lrg2 a b, X, I, E, g => okV (fun e h => by
      split at h
      · simp only [Bool.and_eq_true, decide_eq_true_eq] at h
        obtain ⟨⟨⟨⟨⟨⟨⟨rfl, h1⟩, rfl⟩, h2⟩, h3⟩, h3'⟩, h4⟩, h5⟩ := h
        exact se_lrg2 g.calm (g.gl h1) (g.blt _ (by decide)) (g.gl h2) (g.blt _ (by decide)) ((ex_ok a g).v _ h4) ((ex_ok b g).v _ h5) (star_of h3) (star_of h3') (stars_of (by simp [h3']))
      · cases h) fun e h => by
      split at h
      · trivial
      · cases h
  | .rng es, X, I, E, g => okI fun tg e h => by
      split at h
      · rename_i x p args pos
        simp only [Bool.and_eq_true, decide_eq_true_eq] at h
        obtain ⟨⟨⟨⟨⟨rfl, h1⟩, h2⟩, h3⟩, h4⟩, h5⟩ := h
        obtain ⟨k1, k2⟩ := (exs_ok es g).s _ h5
        have hg := g.gl h1
        have hm := g.blt ("range" : Str) (by decide)
        rw [← k2]
        match args, h2, h3, h4, k1 with
        | [a], h2, _, _, k1 => exact si_rng1 hg hm k1 (star_of (by simpa using h2))
        | [a, b], h2, _, _, k1 =>
          simp only [List.all_cons, List.all_nil, Bool.and_eq_true] at h2
          exact si_rng2 hg hm k1 (by rw [star_of h2.1, star_of h2.2.1]; rfl) (star_of h2.2.1)
        | [a, b, c], h2, _, _, k1 =>
          simp only [List.all_cons, List.all_nil, Bool.and_eq_true] at h2
          exact si_rng3 hg hm k1 (star_of h2.1) (stars_of (by simp [h2.2.1, h2.2.2.1]))
        | _ :: _ :: _ :: _ :: _, _, _, h4, _ => simp at h4
      · cases h
  | .zip es, X, I, E, g => okI fun tg e h => by
      split at h
      · rename_i x p a b pos
        simp only [Bool.and_eq_true, decide_eq_true_eq] at h
        obtain ⟨⟨⟨⟨⟨rfl, h1⟩, h2⟩, h3⟩, h4⟩, h5⟩ := h
        cases tg with
        | Tuple ts j tp => exact si_zip (g.gl h1) (g.blt ("zip" : Str) (by decide)) ((exs_ok es g).s _ h5).1 (star_of h3) (stars_of (by simp [h4]))
        | _ => cases h2
      · cases h
  | .enu es, X, I, E, g => okI fun tg e h => by
      split at h
      · rename_i x p a pos
        simp only [Bool.and_eq_true, decide_eq_true_eq] at h
        obtain ⟨⟨⟨⟨rfl, h1⟩, h2⟩, h3⟩, h4⟩ := h
        cases tg with
        | Tuple ts j tp => exact si_enum (g.gl h1) (g.blt ("enumerate" : Str) (by decide)) ((exs_ok es g).s _ h4).1 (star_of h3)
        | _ => cases h2
      · cases h
  | .itm a, X, I, E, g => okI fun tg e h => by
      split at h
      · simp only [Bool.and_eq_true, decide_eq_true_eq] at h
        obtain ⟨⟨⟨⟨rfl, h1⟩, h2⟩, h3⟩, h4⟩ := h
        cases tg with
        | Tuple ts j tp => exact si_itm ((ex_ok a g).v _ h4) (base_of h2) h3
        | _ => cases h1
      · cases h
  | .vals a, X, I, E, g => okI fun tg e h => by
      split at h
      · simp only [Bool.and_eq_true, decide_eq_true_eq] at h
        obtain ⟨⟨⟨rfl, h1⟩, h2⟩, h3⟩ := h
        exact si_vals ((ex_ok a g).v _ h3) (base_of h1) h2
      · cases h
theorem exs_ok : ∀ (es : Exs) {X : Cx} {I : Inf} {E : XK}, GX C k fs gn gv Φ X I E → Oks C X E (chks4 (fnO fs) gn es I) (evs4 gv (arO fs) Φ es)
  | .nil, X, I, E, g => by
      refine ⟨fun es h => ?_, fun es _ h => ?_, fun es _ h => ?_, fun es pos h => ?_, fun es pos h => ?_, fun es pos h => ?_, fun es pos h => ?_, fun ks vs pos h => ?_, fun ks vs pos h => ?_⟩
      · cases es with
        | nil => exact ⟨sa_nil, rfl⟩
        | cons e es => cases h
      · cases es with
        | nil => exact so_nil
        | cons e es => cases h
      · cases es with
        | nil => exact sn_nil
        | cons e es => cases h
      · cases h
      · cases h
      · cases h
      · cases h
      · cases ks with
        | nil => cases vs with
          | nil => exact ⟨[], pp_nil, rfl, rfl⟩
          | cons v vs => cases h
        | cons k ks => cases h
      · cases h
  | .cons a r, X, I, E, g => by
      have ha := ex_ok a g
      have hr := exs_ok r g
      refine ⟨fun es h => ?_, fun es hs h => ?_, fun es hs h => ?_, fun es pos h => ?_, fun es pos h => ?_, fun es pos h => ?_, fun es pos h => ?_, fun ks vs pos h => ?_, fun ks vs pos h => ?_⟩
      · cases es with
        | nil => cases h
        | cons e es =>
          simp only [chks4, Bool.and_eq_true] at h
          exact ⟨sa_cons (ha.v _ h.1.2) (hr.s _ h.2).1 (star_of h.1.1), congrArg (· + 1) (hr.s _ h.2).2⟩
      · cases es with
        | nil => cases h
        | cons e es =>
          simp only [chks4, Bool.and_eq_true] at h
          simp only [List.all_cons, Bool.and_eq_true] at hs
          exact so_cons (ha.v _ h.1.2) (hr.o _ hs.2 h.2) (star_of h.1.1)
      · cases es with
        | nil => cases h
        | cons e es =>
          simp only [chks4, Bool.and_eq_true] at h
          simp only [List.all_cons, Bool.and_eq_true] at hs
          exact sn_cons (ha.v _ h.1.2) (hr.n _ hs.2 h.2) (star_of h.1.1)
      rotate_right
      · cases vs with
        | nil => cases h
        | cons v vs =>
          simp only [chks4, Bool.and_eq_true] at h
          obtain ⟨pairs, h1, h2, h3⟩ := hr.d ks vs pos h.2
          exact ⟨_, _, rfl, v, vs, rfl, ha.v _ h.1, pairs, h1, h2, h3⟩
      rotate_right
      · cases ks with
        | nil => cases h
        | cons ko ks =>
          cases ko with
          | none => cases h
          | some k =>
            simp only [chks4, Bool.and_eq_true] at h
            obtain ⟨mv, mr, e, v, vs', rfl, hv, pairs, h1, h2, h3⟩ := hr.dv ks vs pos h.2
            refine ⟨_, by show PPr X _ (tDs (wd X C) E (mCons _ (evs4 gv (arO fs) Φ r).vs)); rw [e]; exact pp_cons (pos := pos) (ha.v _ h.1) hv h1, ?_, ?_⟩
            · simp only [evalEachOpt, evalEach, List.map_cons, List.zip_cons_cons]; rw [h2]; rfl
            · simp [h3]
      all_goals (cases r with
        | nil =>
          match es, h with
          | [e], h => first | exact one_op (ha.v _ h) | exact pw_and1 (ha.t _ h) | exact pw_or1 (ha.t _ h)
        | cons a' r' =>
          match es, h with
          | e :: e' :: es, h =>
            simp only [chks4, Bool.and_eq_true] at h
            first | exact se_and (ha.v _ h.1) (hr.av _ _ (by simpa only [chks4, Bool.and_eq_true] using h.2)) | exact se_or (ha.v _ h.1) (hr.ov _ _ (by simpa only [chks4, Bool.and_eq_true] using h.2)) | exact st_and (ha.t _ h.1) (hr.at_ _ _ (by simpa only [chks4, Bool.and_eq_true] using h.2)) | exact st_or (ha.t _ h.1) (hr.ot _ _ (by simpa only [chks4, Bool.and_eq_true] using h.2))
        | star a' r' =>
          match es, h with
          | e :: e' :: es, h =>
            simp only [chks4, Bool.and_eq_true] at h
            exact absurd h.2 (by simp))
  | .star a r, X, I, E, g => by
      have ha := ex_ok a g
      have hr := exs_ok r g
      refine ⟨fun es h => ?_, fun es hs h => ?_, fun es hs h => ?_, fun es pos h => ?_, fun es pos h => ?_, fun es pos h => ?_, fun es pos h => ?_, fun ks vs pos h => ?_, fun ks vs pos h => ?_⟩
      · cases es with
        | nil => cases h
        | cons e es =>
          cases e with
          | Starred e p =>
            simp only [chks4, Bool.and_eq_true] at h
            exact ⟨sa_star (ha.v _ h.1) (hr.s _ h.2).1, congrArg (· + 1) (hr.s _ h.2).2⟩
          | _ => cases h
      · cases es with
        | nil => cases h
        | cons e es => cases e <;> first | (cases hs; done) | cases h
      · cases es with
        | nil => cases h
        | cons e es => cases e <;> first | (cases hs; done) | cases h
      all_goals cases h
end
end
end
end Vi
/-! text Vi28 -/
set_option Elab.async false
set_option linter.all false
set_option maxRecDepth 100000
set_option maxHeartbeats 4000000
/-! Vi, part 28: the statements, the defs. -/
namespace Vi
open PySem PySem.Spec PyProof.Rows L2

section
variable {C : Cc} {k : Nat} {fs : List FI} {gn : Nat → Option Str} {gv : Nat → D} {Φ : Nat → Cf} {X : Cx} {I : Inf} {E : XK}
theorem noSwap {e : Expr} {t : Option Expr} {l : Nat} {env : Env} (h : notComp e = true) : swapsWith e t l env = pure false := by cases e <;> first | rfl | cases h
theorem noSwap1 {e t : Expr} {l : Nat} {env : Env} (h : notComp e = true) : swapsWithSole [t] e l env = pure false := noSwap h
theorem noPar {e t : Expr} {env : Env} (h : isTupE e = false) : swappedStores [t] e env = pure none := by
  cases t <;> first | rfl | (cases e <;> first | rfl | cases h)
theorem noPar2 {e o i : Expr} {p : Pos} {env : Env} : swappedStores [.Subscript o i p] e env = pure none := rfl
theorem kind_of (g : GX C k fs gn gv Φ X I E) (h : X.env.scope.kind = .function) : X.env.blockKind = .function := by unfold Env.blockKind; rw [h]; rfl
theorem swapLc {elt : Expr} {gs : List Comprehension} {scope : Scope} {pos py : Pos} {y : Str} {l : Nat} (hk : X.env.scope.kind = .function) (hy : X.env.scope.names.lookup y = some .local) (hl : (py.line == pos.line) = true)
    (ha : (scope.names.any fun (n, k) => n == y && (k == .local || k == .cell)) = false) : swapsWith (.ListComp elt gs scope pos) (some (.Name y py)) l X.env = pure true := sw_true hk hy hl ha
theorem par2_of {x y : Str} {a b : Expr} {px py pt pt2 : Pos} {kt k2 : Nat} (hk : X.env.scope.kind = .function) (hx : X.env.scope.names.lookup x = some .local) (hy : X.env.scope.names.lookup y = some .local) (hl : (py.line == px.line) = true) (ha : notStar a = true) (hb : notStar b = true)
    (h1 : [a, b].all (foldedForSure 8) = false) (h2 : [a, b].all (constantsAlone 8) = false) (hn : x ≠ y) : swappedStores [.Tuple [.Name x px, .Name y py] kt pt] (.Tuple [a, b] k2 pt2) X.env = pure (some [x, y]) := by
  have hb' : X.env.blockKind = .function := by unfold Env.blockKind; rw [hk]; rfl
  have kx : X.env.kindOf x = some .local := hx
  have ky : X.env.kindOf y = some .local := hy
  have f : ∀ e : Expr, notStar e = true → (match e with | .Starred .. => true | _ => false) = false := fun e he => by cases e <;> first | rfl | cases he
  have fa := f a ha
  have fb := f b hb
  have e1 : [x, y].eraseDups.length = 2 := by
    have : (y == x) = false := by simpa using fun z => hn z.symm
    simp [List.eraseDups, List.eraseDupsBy, List.eraseDupsBy.loop, this]
  unfold swappedStores
  simp only [hb', List.filterMap_cons, List.filterMap_nil, kx, ky, List.head?_cons, Option.map_some, Option.getD_some, Expr.pos, h1, h2, hl, List.length_cons, List.length_nil]
  simp
  refine (if_neg ?_).trans (if_pos e1)
  rintro (z | z)
  · cases a <;> first | (cases z; done) | (cases ha; done)
  · cases b <;> first | (cases z; done) | (cases hb; done)
theorem par3_of {x y z : Str} {a b c : Expr} {px py pz pt pt2 : Pos} {kt k2 : Nat} (hk : X.env.scope.kind = .function) (hx : X.env.scope.names.lookup x = some .local) (hy : X.env.scope.names.lookup y = some .local) (hz : X.env.scope.names.lookup z = some .local) (hl : (py.line == px.line) = true) (hl2 : (pz.line == px.line) = true)
    (ha : notStar a = true) (hb : notStar b = true) (hc : notStar c = true) (h1 : [a, b, c].all (foldedForSure 8) = false) (h2 : [a, b, c].all (constantsAlone 8) = false) (n1 : x ≠ y) (n2 : x ≠ z) (n3 : y ≠ z) :
    swappedStores [.Tuple [.Name x px, .Name y py, .Name z pz] kt pt] (.Tuple [a, b, c] k2 pt2) X.env = pure (some [x, y, z]) := by
  have hb' : X.env.blockKind = .function := by unfold Env.blockKind; rw [hk]; rfl
  have kx : X.env.kindOf x = some .local := hx
  have ky : X.env.kindOf y = some .local := hy
  have kz : X.env.kindOf z = some .local := hz
  have f : ∀ e : Expr, notStar e = true → (match e with | .Starred .. => true | _ => false) = false := fun e he => by cases e <;> first | rfl | cases he
  have fa := f a ha
  have fb := f b hb
  have fc := f c hc
  have e1 : [x, y, z].eraseDups.length = 3 := by
    have u1 : (y == x) = false := by simpa using fun z => n1 z.symm
    have u2 : (z == x) = false := by simpa using fun z => n2 z.symm
    have u3 : (z == y) = false := by simpa using fun z => n3 z.symm
    simp [List.eraseDups, List.eraseDupsBy, List.eraseDupsBy.loop, u1, u2, u3]
  unfold swappedStores
  simp only [hb', List.filterMap_cons, List.filterMap_nil, kx, ky, kz, List.head?_cons, Option.map_some, Option.getD_some, Expr.pos, h1, h2, hl, hl2, List.length_cons, List.length_nil]
  simp
  refine (if_neg ?_).trans (if_pos e1)
  rintro (z | z | z)
  · cases a <;> first | (cases z; done) | (cases ha; done)
  · cases b <;> first | (cases z; done) | (cases hb; done)
  · cases c <;> first | (cases z; done) | (cases hc; done)
theorem noPar_of {ts vs : List Expr} {kt k2 : Nat} {pt pt2 : Pos} (hk : X.env.scope.kind = .function) (h : noParB X.env.scope ts vs = true) : swappedStores [.Tuple ts kt pt] (.Tuple vs k2 pt2) X.env = pure none := by
  unfold noParB at h
  unfold swappedStores
  dsimp only
  split
  · rfl
  · rename_i h1
    split
    · rfl
    · split
      · rfl
      · rename_i h2 h3
        simp only [Bool.or_eq_true, Bool.not_eq_true'] at h
        rcases h with (h | h) | h
        · exact absurd (by rw [h]; rfl) h1
        · exfalso
          apply h3
          change ((locNames X.env.scope ((ts.head?.map (·.pos.line)).getD 0) ts).length != ts.length || _) = true
          rw [h]; rfl
        · rw [h]; rfl
theorem nms_of (g : GX C k fs gn gv Φ X I E) : ∀ {is : List Nat} {ts : List Expr}, nmsOk I is ts = true → PGs X ts (gNms is) ∧ (assignEach ts X.env).length = is.length ∧ (assignEach ts X.env).findIdx? (·.1) = none
  | [], [], _ => ⟨gnms_nil, rfl, rfl⟩
  | [], t :: ts, h => by cases h
  | i :: is, [], h => by cases h
  | i :: is, t :: ts, h => by
    cases t with
    | Name x p =>
      simp only [nmsOk, Bool.and_eq_true, decide_eq_true_eq, Bool.or_eq_true] at h
      obtain ⟨⟨⟨h1, h2⟩, h3⟩, h4⟩ := h
      obtain ⟨k1, k2, k3⟩ := nms_of g h4
      refine ⟨gnms_cons (by rw [g.n]; exact g.nd) (by rw [g.n]; exact h1) (by rw [g.sc]; exact loc_of h2) (h3.elim (fun z => .inl (g.st x z)) fun z => .inr (by rw [g.sc]; exact isLocal_of z)) k1, congrArg (· + 1) k2, ?_⟩
      show List.findIdx? _ ((false, _) :: assignEach ts X.env) = none
      rw [List.findIdx?_cons, k3]; rfl
    | _ => cases h
/-- the frame's own -/
structure SX (C : Cc) (k : Nat) (fs : List FI) (gn : Nat → Option Str) (gv : Nat → D) (Φ : Nat → Cf) (X : Cx) (I : Inf) (E : XK) : Prop where
  g : GX C k fs gn gv Φ X I E
  kind : X.env.scope.kind = .function
  own : PassesOwn (model X.prog X.w) X.A X.env X.xe
  tk : Takes X (fun cls d _ H => E cls d H)
  xr : 0 < xcN gv → ∃ D fI fd, FnOk X.prog X.w X.K X.mg X.base (L2.CX X.prog X.w) 1 fI fd ["self", "value"] (spI X.K D fI) ∧ Binds X.K fd ["self", "value"] [] ∧ ∀ c, c < xcN gv → XcF X.K (C c) D fI
theorem sub_of {o i : Expr} {p1 : Pos} {env : Env} (h : notSlice i = true) : ∀ v, assign (.Subscript o i p1) env v = (do
      let ov ← holding [v] (eval o env)
      let iv ← holding [v, ov] (eval i env)
      standAt p1
      holding [v, ov, iv] (setItem ov iv v)
      release [v, ov, iv] []) := fun v => by cases i <;> first | rfl | cases h
mutual
theorem sm_ok : ∀ (s : Sm) {X : Cx} {I : Inf} {E : XK} {st : Stmt}, SX C k fs gn gv Φ X I E → chkS (fnO fs) gn s I st = true → PS X st (tS (wd X C) E (run gv (arO fs) Φ s))
  | .skip, X, I, E, st, g, h => by
    cases st with
    | Expr e p => cases e with
      | Constant c j p2 => cases c <;> first | exact ss_doc | cases h
      | _ => cases h
    | Pass p => exact ss_pass
    | _ => cases h
  | .doE e, X, I, E, st, g, h => by
    cases st with
    | Expr x p =>
      simp only [chkS, Bool.and_eq_true] at h
      exact ss_do ((ex_ok e g.g).v _ h.2) (noSwap h.1)
    | _ => cases h
  | .set i e, X, I, E, st, g, h => by
    cases st with
    | Assign ts v p =>
      match ts, h with
      | [.Name x px], h =>
        simp only [chkS, Bool.and_eq_true, decide_eq_true_eq, Bool.or_eq_true] at h
        obtain ⟨⟨⟨⟨h1, h2⟩, h3⟩, h4⟩, h5⟩ := h
        have hN : X.N.Nodup := by rw [g.g.n]; exact g.g.nd
        have hi : X.N[i]? = some x := by rw [g.g.n]; exact h1
        have hs : X.fn x = true ∨ X.env.scope.names.lookup x = some .local := h3.elim (fun z => .inl (g.g.st x z)) fun z => .inr (by rw [g.g.sc]; exact isLocal_of z)
        have plain : notComp v = true → PS X (.Assign [.Name x px] v p) (tS (wd X C) E (run gv (arO fs) Φ (.set i e))) := fun hc => ss_set hN hi (by rw [g.g.sc]; exact loc_of h2) ((ex_ok e g.g).v _ h4) (noSwap hc) hs
        cases v with
        | ListComp elt gens scope pos =>
          have hsw : swapsWith (.ListComp elt gens scope pos) (some (.Name x px)) p.line X.env = pure (X.env.blockKind == .function && X.env.kindOf x == some .local && px.line == pos.line && !(scope.names.any fun (n, k) => n == x && (k == .local || k == .cell))) := rfl
          generalize hq : (X.env.blockKind == .function && X.env.kindOf x == some .local && px.line == pos.line && !(scope.names.any fun (n, k) => n == x && (k == .local || k == .cell))) = sb at hsw
          cases sb with
          | false => exact ss_set hN hi (by rw [g.g.sc]; exact loc_of h2) ((ex_ok e g.g).v _ h4) hsw hs
          | true =>
          have hl : X.env.scope.names.lookup x = some .local := by
            simp only [Bool.and_eq_true, beq_iff_eq] at hq
            exact hq.1.1.2
          cases e with
          | lc vs t it cd e =>
            have h4' := h4
            simp only [chk4, ckV] at h4'
            split at h4'
            · rename_i elt tg iter ifs scope pos heq
              cases heq
              simp only [Bool.and_eq_true] at h4'
              obtain ⟨⟨⟨⟨⟨c1, c2⟩, c3⟩, c4⟩, c5⟩, c6⟩ := h4'
              have eo : (vs.map fun i => (I.N.getD i "", i)).map (·.2) = vs := by rw [List.map_map]; exact List.map_id _
              have q := ss_setLc (C := C) (E := E) (spos := p) (py := px) (own := vs.map fun i => (I.N.getD i "", i)) (ws := vs) g.g.calm hN hi hl hsw ((ex_ok it g.g).i _ _ c4) (by rw [g.g.n, g.g.sc]; exact blkOk_by c1) (by rw [eo]; exact fun i hi => hi)
                (fun s H A cl fp => tg_ok t (g.g.blk s H A cl fp) c3) (fun s H A cl fp => (ex_ok cd (g.g.blk s H A cl fp)).c _ c5) (fun s H A cl fp => (ex_ok e (g.g.blk s H A cl fp)).v _ c6) (iter_of c2)
              rw [eo] at q
              exact q
            · cases h4'
          | _ => cases h4
        | DictComp kx vx gens scope pos =>
          have hsw : swapsWith (.DictComp kx vx gens scope pos) (some (.Name x px)) p.line X.env = pure (X.env.blockKind == .function && X.env.kindOf x == some .local && px.line == pos.line && !(scope.names.any fun (n, k) => n == x && (k == .local || k == .cell))) := rfl
          generalize hq : (X.env.blockKind == .function && X.env.kindOf x == some .local && px.line == pos.line && !(scope.names.any fun (n, k) => n == x && (k == .local || k == .cell))) = sb at hsw
          cases sb with
          | false => exact ss_set hN hi (by rw [g.g.sc]; exact loc_of h2) ((ex_ok e g.g).v _ h4) hsw hs
          | true =>
          have hl : X.env.scope.names.lookup x = some .local := by
            simp only [Bool.and_eq_true, beq_iff_eq] at hq
            exact hq.1.1.2
          cases e with
          | dc vs t it cd k e =>
            have h4' := h4
            simp only [chk4, ckV] at h4'
            split at h4'
            · rename_i kx vx tg iter ifs scope pos heq
              cases heq
              simp only [Bool.and_eq_true] at h4'
              obtain ⟨⟨⟨⟨⟨⟨c1, c2⟩, c3⟩, c4⟩, c5⟩, c6⟩, c7⟩ := h4'
              have eo : (vs.map fun i => (I.N.getD i "", i)).map (·.2) = vs := by rw [List.map_map]; exact List.map_id _
              have q := ss_setDc (C := C) (E := E) (spos := p) (py := px) (own := vs.map fun i => (I.N.getD i "", i)) (ws := vs) g.g.units g.g.calm hN hi hl hsw ((ex_ok it g.g).i _ _ c4) (by rw [g.g.n, g.g.sc]; exact blkOk_by c1) (by rw [eo]; exact fun i hi => hi)
                (fun s H A cl fp => tg_ok t (g.g.blk s H A cl fp) c3) (fun s H A cl fp => (ex_ok cd (g.g.blk s H A cl fp)).c _ c5) (fun s H A cl fp => (ex_ok k (g.g.blk s H A cl fp)).v _ c6) (fun s H A cl fp => (ex_ok e (g.g.blk s H A cl fp)).v _ c7) (iter_of c2)
              rw [eo] at q
              exact q
            · cases h4'
          | _ => cases h4
        | _ => exact plain (h5.elim id fun z => by cases z)
    | _ => cases h
  | .asg t e, X, I, E, st, g, h => by
    cases st with
    | Assign ts v p =>
      match ts, h with
      | [tg], h =>
        simp only [chkS, Bool.and_eq_true, Bool.not_eq_true'] at h
        obtain ⟨⟨⟨⟨h1, h2⟩, h3⟩, h4⟩, h5⟩ := h
        refine ss_asg ((ex_ok e g.g).v _ h5) (tg_ok t g.g h4) (gT_nox t) (noSwap1 h2) (noPar h3) ?_
        cases tg <;> first | rfl | cases h1
    | _ => cases h
  | .setix o i e, X, I, E, st, g, h => by
    cases st with
    | Assign ts v p =>
      match ts, h with
      | [.Subscript a b q], h =>
        simp only [chkS, Bool.and_eq_true] at h
        obtain ⟨⟨⟨⟨h1, h2⟩, h3⟩, h4⟩, h5⟩ := h
        exact ss_setix g.g.units ((ex_ok e g.g).v _ h5) ((ex_ok o g.g).v _ h3) ((ex_ok i g.g).v _ h4) (noSwap1 h2) noPar2 (sub_of h1)
    | _ => cases h
  | .par2 i j e1 e2, X, I, E, st, g, h => by
    cases st with
    | Assign ts v p =>
      match ts, v, h with
      | [.Tuple [.Name x px, .Name y py] kt pt], .Tuple [a, b] k2 pt2, h =>
        simp only [chkS, Bool.and_eq_true, decide_eq_true_eq, Bool.not_eq_true'] at h
        obtain ⟨⟨⟨⟨⟨⟨⟨⟨⟨⟨⟨⟨h1, h2⟩, h3⟩, h4⟩, h5⟩, h6⟩, h7⟩, h8⟩, h9⟩, h10⟩, h11⟩, h12⟩, h13⟩ := h
        have hN : X.N.Nodup := by rw [g.g.n]; exact g.g.nd
        have l1 : X.env.scope.names.lookup x = some .local := by rw [g.g.sc]; exact isLocal_of h4
        have l2 : X.env.scope.names.lookup y = some .local := by rw [g.g.sc]; exact isLocal_of h5
        exact ss_par2 g.g.calm hN (by rw [g.g.n]; exact h1) (by rw [g.g.n]; exact h2) h3 l1 l2 ((ex_ok e1 g.g).v _ h12) ((ex_ok e2 g.g).v _ h13) (par2_of g.kind l1 l2 h8 h6 h7 h9 h10 h11) (star_of h6) (star_of h7)
    | _ => cases h
  | .par3 i j l e1 e2 e3, X, I, E, st, g, h => by
    cases st with
    | Assign ts v p =>
      match ts, v, h with
      | [.Tuple [.Name x px, .Name y py, .Name z pz] kt pt], .Tuple [a, b, c] k2 pt2, h =>
        simp only [chkS, Bool.and_eq_true, decide_eq_true_eq, Bool.not_eq_true'] at h
        obtain ⟨⟨⟨⟨⟨⟨⟨⟨⟨⟨⟨⟨⟨⟨⟨⟨⟨⟨⟨⟨⟨h1, h2⟩, h3⟩, h4⟩, h5⟩, h6⟩, h7⟩, h8⟩, h9⟩, h10⟩, h11⟩, h12⟩, h13⟩, h14⟩, h15⟩, h16⟩, h17⟩, h18⟩, h19⟩, h20⟩, h21⟩, h22⟩ := h
        have hN : X.N.Nodup := by rw [g.g.n]; exact g.g.nd
        have l1 : X.env.scope.names.lookup x = some .local := by rw [g.g.sc]; exact isLocal_of h7
        have l2 : X.env.scope.names.lookup y = some .local := by rw [g.g.sc]; exact isLocal_of h8
        have l3 : X.env.scope.names.lookup z = some .local := by rw [g.g.sc]; exact isLocal_of h9
        exact ss_par3 g.g.calm hN (by rw [g.g.n]; exact h1) (by rw [g.g.n]; exact h2) (by rw [g.g.n]; exact h3) h4 h5 h6 l1 l2 l3 ((ex_ok e1 g.g).v _ h20) ((ex_ok e2 g.g).v _ h21) ((ex_ok e3 g.g).v _ h22)
          (par3_of g.kind l1 l2 l3 h13 h14 h10 h11 h12 h15 h16 h17 h18 h19) (star_of h10) (star_of h11) (star_of h12)
    | _ => cases h
  | .parT is es, X, I, E, st, g, h => by
    cases st with
    | Assign ts v p =>
      match ts, v, h with
      | [.Tuple ts kt pt], .Tuple vs k2 pt2, h =>
        simp only [chkS, Bool.and_eq_true, decide_eq_true_eq] at h
        obtain ⟨⟨⟨⟨h1, h2⟩, h3⟩, h4⟩, h5⟩ := h
        obtain ⟨k1, k2, k3⟩ := nms_of g.g h1
        have hz : sizeLine = 16777216 := sizeLine_eq
        exact ss_parT g.g.calm k1 ((exs_ok es g.g).n _ h3 h5) (by omega) k2 k3 (noPar_of g.kind (by rw [g.g.sc]; exact h2))
    | _ => cases h
  | .ret e, X, I, E, st, g, h => by
    cases st with
    | Return v p => cases v with
      | some x => exact ss_ret ((ex_ok e g.g).v _ h)
      | none => cases h
    | _ => cases h
  | .retN, X, I, E, st, g, h => by
    cases st with
    | Return v p => cases v with
      | some x => cases h
      | none => exact ss_retN
    | _ => cases h
  | .ifS c a b, X, I, E, st, g, h => by
    cases st with
    | If t xs ys p =>
      simp only [chkS, Bool.and_eq_true] at h
      exact ss_if ((ex_ok c g.g).t _ h.1.1) (sms_ok a g h.1.2) (sms_ok b g h.2)
    | _ => cases h
  | .forS t it b, X, I, E, st, g, h => by
    cases st with
    | For tg iter xs ys p =>
      cases ys with
      | nil =>
        simp only [chkS, Bool.and_eq_true] at h
        obtain ⟨⟨⟨h1, h2⟩, h3⟩, h4⟩ := h
        exact ss_for g.own g.g.calm ((ex_ok it g.g).i _ _ h3) (tg_ok t g.g h2) (gT_nox t) (sms_ok b g h4) (iter_of h1)
      | cons y ys => cases h
    | _ => cases h
  | .whl n c b, X, I, E, st, g, h => by
    cases st with
    | While t xs ys p =>
      cases ys with
      | nil =>
        simp only [chkS, Bool.and_eq_true] at h
        exact ss_while g.own ((ex_ok c g.g).t _ h.1) (sms_ok b g h.2)
      | cons y ys => cases h
    | _ => cases h
  | .rse j e, X, I, E, st, g, h => by
    cases st with
    | Raise oe oc p =>
      match oe, oc, h with
      | some (.Call (.Name x p1) [y] [] p2), none, h =>
        simp only [chkS, Bool.and_eq_true, decide_eq_true_eq] at h
        obtain ⟨⟨⟨⟨h1, h2⟩, h3⟩, h4⟩, h5⟩ := h
        obtain ⟨u, v, m1, m2, m3⟩ := g.g.gls j x h1
        show PS X _ (tS (wd X C) E (match gv j with | .cls c => if c < xcN gv then mRse c (ev4 gv (arO fs) Φ e).v else fun _ => .fail | _ => fun _ => .fail))
        split
        · rename_i c hc
          split
          · rename_i hn
            obtain ⟨D, fI, fd, F1, hb, T⟩ := g.xr (by omega)
            have m4 := m3 (fun _ => none) []
            rw [hc] at m4
            cases m4
            obtain rfl : u = Value.ref (C c) := m2
            exact ss_rse (T c hn) F1 (g.g.room.1.mono g.g.k2) hb g.g.calm g.tk (g.g.gl h2) m1 ((ex_ok e g.g).v _ h5) (star_of h4) (nameOk_of h3).1
          · exact psW' ps_never fun D σ H ⟨F, μ, S, R, p⟩ => p.elim
        · exact psW' ps_never fun D σ H ⟨F, μ, S, R, p⟩ => p.elim
    | _ => cases h
  | .never, X, I, E, st, g, h => psW' ps_never fun D σ H ⟨F, μ, S, R, p⟩ => p.elim
theorem sms_ok : ∀ (s : Sms) {X : Cx} {I : Inf} {E : XK} {st : List Stmt}, SX C k fs gn gv Φ X I E → chkSs (fnO fs) gn s I st = true → PSs X st (tS (wd X C) E (runs gv (arO fs) Φ s))
  | .nil, X, I, E, st, g, h => by
    cases st with
    | nil => exact ss_nil
    | cons s st => cases h
  | .cons s r, X, I, E, st, g, h => by
    cases st with
    | nil => cases h
    | cons x st =>
      simp only [chkSs, Bool.and_eq_true] at h
      exact ss_cons (sm_ok s g h.1) (sms_ok r g h.2)
end
end
end Vi
/-! text Vi29 -/
set_option Elab.async false
set_option linter.all false
set_option maxRecDepth 100000
set_option maxHeartbeats 4000000
/-! Vi, part 29: a whole program. -/
namespace Vi
open PySem PySem.Spec PyProof.Rows L2

structure DefV where
  ps : List Str
  N : List Str
  ast : Sms
/-- a def's meaning, told otherwise than by its own syntax: from the meaning of the others -/
abbrev Xt := Nat → Option ((Nat → Cf) → MS)
/-- the body's meaning -/
def bodyM (gv : Nat → D) (ar : Nat → Nat) (ext : Xt) (i : Nat) (ast : Sms) (Φ : Nat → Cf) : MS := match ext i with
  | some m => m Φ
  | none => runs gv ar Φ ast
/-- what Vi makes of a program, calls nested at most k deep -/
def sem (gv : Nat → D) (prog : List DefV) (ext : Xt) : Nat → Nat → Cf
  | 0, _ => fun _ _ => .fail
  | k + 1, i => match prog[i]? with
    | some v => cfOf v.N.length (bodyM gv (fun j => ((prog[j]?).map (·.ps.length)).getD 0) ext i v.ast (sem gv prog ext k))
    | none => fun _ _ => .fail
def scB (N ps : List Str) (sc : Scope) : Bool :=
  (match sc.kind with | .function => true | _ => false) && !sc.isCoroutine && !sc.isGenerator && decide N.Nodup && decide (N.take ps.length = ps) && ps.all (locB sc) && sc.names.all fun y => !(y.2 == .free)
def okD (fnm gn : Nat → Option Str) (d : He.DefD) (v : DefV) : Bool := scB v.N v.ps d.scope && d.at_.2.isNone && d.dfl.isEmpty && d.kwd.isEmpty && chkSs fnm gn v.ast ⟨v.N, d.scope, none⟩ d.body
def okAll (fnm gn : Nat → Option Str) : List He.DefD → List DefV → Bool
  | [], [] => true
  | d :: ds, v :: vs => okD fnm gn d v && okAll fnm gn ds vs
  | _, _ => false
def nmO (fn : List He.DefD) (i : Nat) : Option Str := (fn[i]?).map (·.at_.1)
theorem okAll_at {fnm gn : Nat → Option Str} : ∀ {ds : List He.DefD} {vs : List DefV}, okAll fnm gn ds vs = true → ds.length = vs.length ∧ ∀ (i : Nat) (d : He.DefD) (v : DefV), ds[i]? = some d → vs[i]? = some v → okD fnm gn d v = true
  | [], [], _ => ⟨rfl, fun i d v h => by simp at h⟩
  | d :: ds, v :: vs, h => by
    simp only [okAll, Bool.and_eq_true] at h
    obtain ⟨h1, h2⟩ := okAll_at h.2
    refine ⟨by simp [h1], fun i d' v' e1 e2 => ?_⟩
    cases i with
    | zero => cases e1; cases e2; exact h.1
    | succ i => exact h2 i d' v' (by simpa using e1) (by simpa using e2)
theorem scB_of {N ps : List Str} {sc : Scope} (h : scB N ps sc = true) : FnScope N ps sc := by
  unfold scB at h
  simp only [Bool.and_eq_true, Bool.not_eq_true', decide_eq_true_eq, List.all_eq_true] at h
  obtain ⟨⟨⟨⟨⟨⟨h1, h2⟩, h3⟩, h4⟩, h5⟩, h6⟩, h7⟩ := h
  refine ⟨?_, h2, h3, h4, h5, fun x hx => (loc_of (h6 x hx)), fun y hy e => ?_⟩
  · split at h1
    · assumption
    · cases h1
  · have := h7 y hy
    rw [e] at this
    cases this
def BindOk (d : He.DefD) (v : DefV) : Prop := ∀ (kV doc pm : Value) (an : Option Addr) (cdv ct : Value) (us : List Value), us.length = v.ps.length → bindArgs (PySem.W.fnOf d.name d.qual d.params d.body d.scope .none kV doc pm an cdv ct) ⟨us, []⟩ = pure (v.ps.zip us)
section
variable {P : Program} {w : World} {K : PySem.W.Frag} {mg : Str → Option Value} {base : Heap} {C : Cc} {fa : List He.Fa} {fn : List He.DefD} {prog : List DefV} {gn : Nat → Option Str} {gv : Nat → D} {ext : Xt}
/-- the defs with their addresses and objects -/
structure Fis (K : PySem.W.Frag) (fn : List He.DefD) (prog : List DefV) (fs : List FI) : Prop where
  len : fs.length = fn.length
  at_ : ∀ (i : Nat) (d : He.DefD) (v : DefV), fn[i]? = some d → prog[i]? = some v → ∃ fd, fs[i]? = some ⟨d.at_.1, He.fAd K d.at_, fd, v.ps⟩ ∧ FunD K d.name d.qual d.params d.body d.scope (d.dvs K) (d.kws K) (He.fAd K d.at_) fd
theorem fis_of (c : He.SaysD fa fn K) : ∀ (n : Nat) (ds : List He.DefD) (vs : List DefV), ds.length = vs.length → (∀ i d, ds[i]? = some d → fn[n + i]? = some d) → ∃ fs, Fis K ds vs fs
  | n, [], [], _, _ => ⟨[], rfl, fun i d v h => by simp at h⟩
  | n, d :: ds, v :: vs, hl, hs => by
    obtain ⟨fd, F⟩ := c.def_ n (d := d) (hs 0 d rfl)
    obtain ⟨fs, h1, h2⟩ := fis_of c (n + 1) ds vs (by simpa using hl) fun i d' h => by have := hs (i + 1) d' (by simpa using h); rw [← this]; congr 1; omega
    refine ⟨⟨d.at_.1, He.fAd K d.at_, fd, v.ps⟩ :: fs, by simp [h1], fun i d' v' e1 e2 => ?_⟩
    cases i with
    | zero => cases e1; cases e2; exact ⟨fd, rfl, F⟩
    | succ i =>
      obtain ⟨fd', q1, q2⟩ := h2 i d' v' (by simpa using e1) (by simpa using e2)
      exact ⟨fd', by simpa using q1, q2⟩
/-- one def that is told otherwise -/
def ExtOk (P : Program) (w : World) (K : PySem.W.Frag) (mg : Str → Option Value) (base : Heap) (C : Cc) (fn : List He.DefD) (prog : List DefV) (gn : Nat → Option Str) (gv : Nat → D) (ext : Xt) (fs : List FI) : Prop :=
  ∀ (i : Nat) (m : (Nat → Cf) → MS) (d : He.DefD) (v : DefV), ext i = some m → fn[i]? = some d → prog[i]? = some v → ∀ (k : Nat) (A : Around) (outer : List Env) (s : Shared) (H : Hp) (E : XK) (oc dV kV doc pm cdv ct : Value) (an od : Option Addr) (osl : Array (Option Value)),
    K.lookup (He.fAd K d.at_) = some ⟨oc, od, .func (PySem.W.fnOf d.name d.qual d.params d.body d.scope dV kV doc pm an cdv ct), osl⟩ →
    RoomG (5 * (k + 1) + 1) (cxOf (L2.CX P w) P w K mg base v.N d.qual d.scope (He.fAd K d.at_) cdv A outer s H E).A →
    SX C (5 * k + 2) fs gn gv (sem gv prog ext k) (cxOf (L2.CX P w) P w K mg base v.N d.qual d.scope (He.fAd K d.at_) cdv A outer s H E) ⟨v.N, d.scope, none⟩ E →
    PSs (cxOf (L2.CX P w) P w K mg base v.N d.qual d.scope (He.fAd K d.at_) cdv A outer s H E) d.body (tS ⟨P, w, K, C⟩ E (m (sem gv prog ext k)))
theorem prog_ok {fs : List FI} (f : Fis K fn prog fs) (hl : fn.length = prog.length) (hc : okAll (nmO fn) gn fn prog = true) (hb : ∀ (i : Nat) (d : He.DefD) (v : DefV), fn[i]? = some d → prog[i]? = some v → BindOk d v)
    (hg : ∀ (i : Nat) (d : He.DefD), fn[i]? = some d → mg d.at_.1 = some (.ref (He.fAd K d.at_))) (blt : ∀ b ∈ bltNames, mg b = none) (gls : ∀ i x, gn i = some x → ∃ u v, mg x = some u ∧ RelV v u ∧ ∀ F μ, DR ⟨P, w, K, C⟩ F μ (gv i) v)
    (xi : XisF K C (xcN gv)) (xv : XvF K C (xcN gv)) (xr : 0 < xcN gv → ∃ D fI fd, FnOk P w K mg base (L2.CX P w) 1 fI fd ["self", "value"] (spI K D fI) ∧ Binds K fd ["self", "value"] [] ∧ ∀ c, c < xcN gv → XcF K (C c) D fI)
    (hx : ExtOk P w K mg base C fn prog gn gv ext fs) :
    ∀ (k i : Nat) (fi : FI), fs[i]? = some fi → FnG P w K mg base (L2.CX P w) (5 * k + 2) fi.f fi.fd fi.ps (spF ⟨P, w, K, C⟩ fi.ps.length (sem gv prog ext k i)) := by
  have en : fnO fs = nmO fn := by
    funext i
    unfold fnO nmO
    by_cases hi : i < fn.length
    · obtain ⟨fd, e, _⟩ := f.at_ i fn[i] prog[i] (List.getElem?_eq_getElem hi) (List.getElem?_eq_getElem (hl ▸ hi))
      rw [e, List.getElem?_eq_getElem hi]; rfl
    · have l1 := f.len
      rw [List.getElem?_eq_none (l := fs) (by omega), List.getElem?_eq_none (l := fn) (by omega)]; rfl
  have ea : arO fs = fun j => ((prog[j]?).map (·.ps.length)).getD 0 := by
    funext i
    unfold arO
    by_cases hi : i < fn.length
    · obtain ⟨fd, e, _⟩ := f.at_ i fn[i] prog[i] (List.getElem?_eq_getElem hi) (List.getElem?_eq_getElem (hl ▸ hi))
      rw [e, List.getElem?_eq_getElem (hl ▸ hi)]; rfl
    · have l1 := f.len
      rw [List.getElem?_eq_none (l := fs) (by omega), List.getElem?_eq_none (l := prog) (by omega)]; rfl
  have at_ : ∀ (i : Nat) (fi : FI), fs[i]? = some fi → ∃ (d : He.DefD) (v : DefV) (fd : FuncData), fn[i]? = some d ∧ prog[i]? = some v ∧ fi = ⟨d.at_.1, He.fAd K d.at_, fd, v.ps⟩ ∧ FunD K d.name d.qual d.params d.body d.scope [] [] (He.fAd K d.at_) fd ∧ okD (nmO fn) gn d v = true := fun i fi e => by
    have hi : i < fn.length := by rw [← f.len]; exact (List.getElem?_eq_some_iff.mp e).1
    have e1 := List.getElem?_eq_getElem hi
    have e2 := List.getElem?_eq_getElem (l := prog) (i := i) (hl ▸ hi)
    obtain ⟨fd, q1, q2⟩ := f.at_ i _ _ e1 e2
    have ok := (okAll_at hc).2 i _ _ e1 e2
    rw [e] at q1
    cases q1
    have ok' := ok
    unfold okD at ok'
    simp only [Bool.and_eq_true] at ok'
    have d0 : fn[i].dfl = [] := by simpa using ok'.1.1.2
    have k0 : fn[i].kwd = [] := by simpa using ok'.1.2
    have d1 : fn[i].dvs K = [] := by unfold He.DefD.dvs; rw [d0]; rfl
    have k1 : fn[i].kws K = [] := by unfold He.DefD.kws; rw [k0]; rfl
    rw [d1, k1] at q2
    exact ⟨_, _, fd, e1, e2, rfl, q2, ok⟩
  intro k
  induction k with
  | zero => exact fun i fi e => fnG_none fun ds s => rfl
  | succ k ih =>
    intro i fi e
    obtain ⟨d, v, fd, e1, e2, rfl, F, ok⟩ := at_ i fi e
    obtain ⟨oc, od, dV, kV, doc, pm, an, cdv, ct, osl, rfl, lk, hcd, _, _⟩ := F.ex
    unfold okD at ok
    simp only [Bool.and_eq_true] at ok
    have S := scB_of ok.1.1.1.1
    have hN : v.ps.length ≤ v.N.length := by have := congrArg List.length S.pre; rw [List.length_take] at this; omega
    have es : sem gv prog ext (k + 1) i = cfOf v.N.length (bodyM gv (arO fs) ext i v.ast (sem gv prog ext k)) := by
      rw [ea]
      show (match prog[i]? with | some v => _ | none => _) = _
      rw [e2]
    rw [es]
    refine fnG_vi lk hcd S hN fun A outer s H E r => ?_
    have g : GX C (5 * k + 2) fs gn gv (sem gv prog ext k) (cxOf (L2.CX P w) P w K mg base v.N d.qual d.scope (He.fAd K d.at_) cdv A outer s H E) ⟨v.N, d.scope, none⟩ E := by
      refine ⟨rfl, S.nd, rfl, fun _ _ => rfl, rfl, ⟨r.1.mono (by omega), r.2⟩, ?_, blt, fun j fj ej => ?_, by omega, xi, xv, gls⟩
      · exact passes_call (takes_of rfl rfl rfl rfl) fun _ _ _ _ h => h
      · obtain ⟨d', v', fd', q1, q2, rfl, F', _⟩ := at_ j fj ej
        exact ⟨ih j _ ej, hg j d' q1, F'.kp, F'.bindsN (hb j d' v' q1 q2)⟩
    have sx : SX C (5 * k + 2) fs gn gv (sem gv prog ext k) (cxOf (L2.CX P w) P w K mg base v.N d.qual d.scope (He.fAd K d.at_) cdv A outer s H E) ⟨v.N, d.scope, none⟩ E := ⟨g, S.kind, passes_of rfl, takes_of rfl rfl rfl rfl, xr⟩
    unfold bodyM
    split
    · rename_i m hm
      exact hx i m d v hm e1 e2 k A outer s H E oc dV kV doc pm cdv ct an od osl lk r sx
    · refine sms_ok v.ast sx ?_
      rw [en]
      exact ok.2
end
end Vi
/-! text Vc1 -/
set_option Elab.async false
set_option linter.all false
set_option maxRecDepth 100000
set_option maxHeartbeats 2000000
/-! Vc, part 1: try: .. except C as e: return e; the error that is given back is known from then on. -/
namespace Vi
open PySem PySem.Spec PyProof.Rows L2

section
variable {X : Cx} {pins : List (Addr × Obj)} {σ : L2.St} {H : Hp} {s : Shared}
/-- an object that stands is known from now on -/
theorem Inv.trackN {a : Addr} {o : HO} {oe : Obj} (I : L2.Inv X pins σ H s) (ha : s.heap.get? a = some oe) (hd : ∀ v, oe.data ≠ .cell v) (hn : H a = none) (h0 : X.s_0.heap.get? a = none) (nL : a ≠ X.env.locals) (np : ∀ p ∈ X.pn ++ pins, p.1 ≠ a) (new : ObjOk X.prog X.w (upd H a o) s.heap a o) :
    L2.Inv X pins σ (upd H a o) s := by
  refine ⟨I.ok, I.os, I.bare, ⟨I.base.keep, I.base.slot, fun b ob e n hx => ?_, I.base.there, fun b xs e => ?_, fun b ob u e => ?_, fun b ps e => ?_⟩, I.loc, I.cell, ?_, fun x c e => ?_, fun p hp => ?_, ?_, I.len⟩
  · have hb : b ≠ a := fun z => by rw [z, h0] at e; cases e
    rw [upd_ne hb]; exact I.base.free b ob e n hx
  · have z := I.base.tups b xs e
    rw [upd_ne (ne_of_none z hn)]; exact z
  · have z := I.base.frzs b ob u e
    rw [upd_ne (ne_of_none z hn)]; exact z
  · obtain ⟨m, z⟩ := I.base.tbls b ps e
    exact ⟨m, by rw [upd_ne (ne_of_none z hn)]; exact z⟩
  · rw [upd_ne (Ne.symm nL)]; exact I.free
  · have hc : c ≠ a := fun z => by
      obtain ⟨v, ob, e1, e2⟩ := I.cell x c e
      rw [z, ha] at e1
      cases e1
      exact hd _ e2
    rw [upd_ne hc]; exact I.freeC x c e
  · obtain ⟨h1, h2, h3⟩ := I.pin p hp
    refine ⟨h1, ?_, h3⟩
    rw [upd_ne (np p hp)]; exact h2
  · exact I.hok.laidN (fun b u e => e) hn new
theorem exV_ok {P : Program} {w : World} {H' : Hp} {h : Heap} {a C dx : Addr} {oe : Obj} {vs : Array Value} (he : h.get? a = some oe) (hz : Zc (.ref C) (some dx) oe) (hd : oe.data = .fields vs) : ObjOk P w H' h a (ExV a C dx) :=
  ⟨⟨oe, vs, he, hz, hd⟩, ⟨oe, he⟩, fun h1 h2 ⟨oe, vs, e1, e2, e3⟩ st => ⟨oe, vs, st _ e1, e2, e3⟩⟩
end
/-- what is wished of an error of the body -/
def wCt (K : PySem.W.Frag) (c : Value) (D : Ends) : WX := fun cls d _ H => ∃ C dx w, cls = .ref C ∧ d = some dx ∧ PySem.W.exmOne K (.ref C) c = some true ∧ H dx = some (.xd [("value", w)]) ∧ ∀ a, H a = none → D.rt (.ref a) (upd H a (ExV a C dx))
section
variable {X : Cx} {x n : Str} {c : Value} {i : Nat} {body : List Stmt} {np p1 p2 pos pos' : Pos} {tb : WX → TS}
theorem ps_caught (hs : X.stack = X.env :: X.outer) (hf : X.env.frame = some X.env.locals) (hex : X.ex = []) (hN : X.N.Nodup) (hi : X.N[i]? = some n) (hln : X.env.kindOf n = some .local) (hd1 : (n == ("__debug__" : Str)) = false) (hd2 : (n == ("__classdict__" : Str)) = false) (hc : Names X x c)
    (hb : ∀ (W : WX) (pn : List (Addr × Obj)) (xe : Value → Shared → Prop), Takes (X.tr pn xe) W → PassesOwn (model X.prog X.w) X.A X.env xe → PSs (X.tr pn xe) body (tb W)) :
    PS X (.Try body [.ExceptHandler (some (.Name x np)) (some n) [.Return (some (.Name n p1)) p2] pos'] [] [] pos) (fun D σ H => tb (wCt X.K c D) D σ H) := by
  refine ⟨fun pins s σ H D I h => ?_⟩
  have ok := I.ok
  have hfr : X.A.frames = some (X.env :: X.outer) := by rw [ok.frames, hs]
  have hloc : Loc X.env.scope n := .inl hln
  refine wpAny_Try_except ?_
  refine wpAny_mono ((hb (wCt X.K c D) (X.pn ++ pins) (fun e s₁ => wpAny (model X.prog X.w) X.A (noteFrame e X.env) (fun _ s₂ => wpAny (model X.prog X.w) X.A (setFlight e none) (fun _ s₃ =>
    wpAny (model X.prog X.w) X.A (handleBy e X.env [.ExceptHandler (some (.Name x np)) (some n) [.Return (some (.Name n p1)) p2] pos']) (SP X pins D) X.xe s₃) X.xe s₂) X.xe s₁) (fun u s' xx => ?_) PassesOwn.looking).run [] s σ H D (I.toTry _) h) (fun f s1 hsp => ?_) (fun e s1 he => he)
  · -- an error comes
    obtain ⟨a, B, sI, pins', σ', H', cls, d, rfl, J', nb, up, sky, na, os, ag, C, dx, w, rfl, rfl, hb1, hdx, hq⟩ := xx
    have J : L2.Inv X pins σ' H' sI := J'.ofTry ok
    have sky' : Sky B (X.env :: X.outer) a (Zc (.ref C) (some dx)) X.env.locals s'.heap := by rw [← hs]; exact sky
    show wpAny (model X.prog X.w) X.A (noteFrame (.ref a) X.env) _ _ _
    refine Sky.land Zc.steady hfr hf sky' fun h3 fl3 up3 => ?_
    have J3 : L2.Inv X pins σ' H' { s' with heap := h3 } := J.landed nb fl3.1 (up.trans up3) os ag
    obtain ⟨oe3, vs3, he3, hz3, hd3⟩ := fl3.there
    have notFr : ∀ {h : Heap} {o : Obj} {vs : Array Value}, h.FunFrames B (X.env :: X.outer) → h.get? a = some o → o.data = .fields vs → a ∉ frs (X.env :: X.outer) := fun {h o vs} ff e dd hm => by
      obtain ⟨_, o', e', hnf⟩ := ff.mem hm
      rw [e] at e'; cases e'
      exact hnf _ dd
    have nfr := notFr fl3.2.2.1 he3 hd3
    have nL : a ≠ X.env.locals := fun z => nfr (List.mem_filterMap.mpr ⟨X.env, List.mem_cons_self, by rw [hf, z]⟩)
    have nF : a ∉ X.fs := fun hm => by
      obtain ⟨e, he, q⟩ := List.mem_filterMap.mp hm
      exact nfr (List.mem_filterMap.mpr ⟨e, List.mem_cons_of_mem _ he, q⟩)
    have aI : sI.heap.get? a = none := by
      cases e : sI.heap.get? a with
      | none => rfl
      | some o =>
        have z := nb a o e (by rw [hs]; exact nfr)
        rw [fl3.2.1] at z; cases z
    have a0 : X.s_0.heap.get? a = none := by
      cases e : X.s_0.heap.get? a with
      | none => rfl
      | some o =>
        obtain ⟨o', z⟩ := J.base.there a o e (by rw [hex]; exact fun q => nomatch q)
        rw [aI] at z; cases z
    have npn : ∀ p ∈ X.pn ++ pins, p.1 ≠ a := fun p hp z => by
      have q := (J.pin p hp).1
      rw [z, aI] at q; cases q
    have S3 := J3.suite he3 hd3 na nL nF
    refine wpAny_handleBy_cons (codeAny_handlers_test ?_) (by intro q; cases q)
    have LT : PySem.W.Looks (model X.prog X.w) h3 (typeOf (.ref a)) (.ref C) := fun A Q E s k q => wpAny_typeOf_ref (k _ _ he3) (by rw [hz3.1]; exact q)
    have LM := PySem.W.exm_one (M := model X.prog X.w) (J3.kIn) LT hb1
    have test : ∀ {Q : Value → Shared → Prop} {E : Value → Shared → Prop}, Q c { s' with heap := h3 } → wpAny (model X.prog X.w) (X.A.mark (some (.ref a))) (eval (.Name x np) X.env) Q E { s' with heap := h3 } := fun {Q E} q => by
      obtain ⟨hg, hdbg, hm | ⟨hm, hv, hnn⟩⟩ := hc
      · exact ld_glob (X := X.suite a ((a, oe3) :: (X.pn ++ pins))) S3 hg hm q hdbg
      · exact ld_blt (X := X.suite a ((a, oe3) :: (X.pn ++ pins))) S3 hg hm hv q hnn hdbg
    refine test (LM.here ?_)
    refine codeAny_handlers_suite_as ?_
    refine HandSPX.lands_againZ fl3 fun h4 fl4 up4 => ?_
    have J4 : L2.Inv X pins σ' H' { s' with heap := h4 } := J.landed nb fl4.1 ((up.trans up3).trans up4) os ag
    obtain ⟨oe4, vs4, he4, hz4, hd4⟩ := fl4.there
    have S4 := J4.suite he4 hd4 na nL nF
    have hlt : i < σ'.length := by rw [J.len]; exact (List.getElem?_eq_some_iff.mp hi).1
    refine store_ok (X := X.suite a ((a, oe4) :: (X.pn ++ pins))) (v := .ref a) S4 hN hi hloc rfl (fun s5 S5 => ?_) (.inr hln)
    have su : PSs (X.suite a ((a, oe4) :: (X.pn ++ pins))) [.Return (some (.Name n p1)) p2] _ := pss_one (ps_ret (pe_var (i := i) hi (.inl hln) hd1 hd2))
    refine wpAny_mono (su.run [] s5 _ H' { nx := fun _ _ => False, rt := fun v H6 => v = .ref a ∧ H6 = H' } S5 ⟨.ref a, by rw [List.getElem?_set_self hlt], rfl, rfl⟩) (fun f s6 hsp => ?_) (fun _ _ z => False.elim z)
    cases f with
    | next => obtain ⟨_, _, _, z⟩ := hsp; exact z.elim
    | brk => obtain ⟨_, _, _, z⟩ := hsp; exact z.elim
    | cont => obtain ⟨_, _, _, z⟩ := hsp; exact z.elim
    | ret u =>
      obtain ⟨v6, σ6, H6, S6, r6, ev, eH⟩ := hsp
      subst ev eH
      refine gone_ok (X := X.suite a ((a, oe4) :: (X.pn ++ pins))) S6 hN hi hln fun s7 S7 => ?_
      have ha7 := (S7.pin (a, oe4) (List.mem_append_left _ List.mem_cons_self)).1
      have J7 := S7.unsuite ok
      exact ⟨.ref a, _, _, Inv.trackN J7 ha7 (fun v z => by rw [hd4] at z; cases z) na a0 nL npn (exV_ok ha7 hz4 hd4), r6, hq a na⟩
  · cases f with
    | next =>
      obtain ⟨σ', H', J', q⟩ := hsp
      exact wpAny_execs_nil ⟨σ', H', J'.ofTry ok, q⟩
    | brk =>
      obtain ⟨σ', H', J', q⟩ := hsp
      exact ⟨σ', H', J'.ofTry ok, q⟩
    | cont =>
      obtain ⟨σ', H', J', q⟩ := hsp
      exact ⟨σ', H', J'.ofTry ok, q⟩
    | ret u =>
      obtain ⟨v, σ', H', J', r, q⟩ := hsp
      exact ⟨v, σ', H', J'.ofTry ok, r, q⟩
end
end Vi
/-! text Vc2 -/
set_option Elab.async false
set_option linter.all false
set_option maxRecDepth 100000
set_option maxHeartbeats 4000000
/-! Vc, part 2: a list comprehension whose item may lean on the state where it starts. -/
namespace Vi
open PySem PySem.Spec PyProof.Rows L2

section
variable {X : Cx}
theorem lcF_core {pins : List (Addr × Obj)} {s : Shared} {σ : L2.St} {H : Hp} {Q : VK} {elt tg iter : Expr} {ifs : List Expr} {scope : Scope} {own : List (Str × Nat)} {pos pos' : Pos} {wi : TI} {g : TG} {tt : TT} {te : TE} {use : Option (Value → Sem Unit)} {Qf : Value → Shared → Prop}
    (clm : X.calm = true) (nodN : X.N.Nodup) (I : L2.Inv X pins σ H s) (itOk : PI X tg iter wi) (bok : BlkOk X.N X.env.scope scope own)
    (tgOk : ∀ (s : Shared) (H : Hp) (C : Addr) (cl : List (Str × Addr)) (fp : List Addr), PG (X.blk s H scope (compEnvC scope cl C X.env) fp) tg g) (tsOk : ∀ (s : Shared) (H : Hp) (C : Addr) (cl : List (Str × Addr)) (fp : List Addr), PTs (X.blk s H scope (compEnvC scope cl C X.env) fp) ifs tt)
    (eltOk : ∀ (s : Shared) (H : Hp), L2.Inv X pins σ H s → ∀ (fp : List Addr), (∀ b ∈ fp, FpOk X pins H b) → ∀ (C : Addr) (cl : List (Str × Addr)), PE (X.blk s H scope (compEnvC scope cl C X.env) fp) elt te) (foldN : ∀ x, foldedSetIterable iter X.env x = pure x)
    (rdg : tLc wi g tt te (own.map (·.2)) σ H Q)
    (kOut : ∀ D C s' m H', L2.Inv X pins σ H' s' → Q (.ref D) H' → s'.heap.Ns C m → FpOk X pins H' C → compPost (model X.prog X.w) X.A X.xe use Qf (.ref D) C (.ok .next) s') :
    wpAny (model X.prog X.w) X.A (comprehension (.ListComp elt [⟨tg, iter, ifs, 0⟩] scope pos) scope X.env pos' (newList []) false (eval iter X.env) use) Qf X.xe s := by
  have frees : ∀ y ∈ scope.names, y.2 = .free → ∃ c, X.env.cells.lookup y.1 = some c := fun y hy e => by
    rcases bok.free y hy e with k | k
    · exact I.ok.has _ (.inl k)
    · exact I.ok.has _ (.inr k)
  refine wpAny_comprehension_free (use := use) rfl foldN (closure_ok frees) bok.kind (fun y hy e => by rw [bok.uniq y hy, e])
    (thn (itOk.run pins s σ H _ I rdg) fun xv s1 hx => thn hx fun itv s2 h2 => ?_)
  obtain ⟨it, fp, tn, J, H2, e, I2, T, st2, f2, q⟩ := h2
  subst e
  refine wpAny_newObj_type (newEnv_comp ?_) (by show 0 ≤ sizeLine; decide)
  generalize hD : s2.heap.objs.size = D
  have newD : H2 D = none := I2.hok.fresh (Nat.le_of_eq hD)
  obtain ⟨W, ⟨m0, w0⟩, turn⟩ := q D newD
  -- the new list
  generalize e3 : ({ s2 with heap := s2.heap.push { cls := .type "list", data := .seq ([] : List Value).toArray } } : Shared) = s3
  have I3 : L2.Inv X pins σ (upd H2 D (.lst [])) s3 := by
    rw [← e3]
    refine I2.laid (t' := s2.toks) (fun b o e => Heap.get?_push_of_some _ e) (Nat.le_of_eq hD) ?_
    rw [← hD]
    exact ⟨Nat.zero_le _, [], 0, .nil, Heap.get?_push_size _ rfl⟩
  have hp3 : s3.heap = s2.heap.push { cls := .type "list", data := .seq ([] : List Value).toArray } := by rw [← e3]
  have inS2 : ∀ b ∈ fp, b < s2.heap.objs.size := fun b hb => by
    obtain ⟨o, e, _⟩ := T.obj _ _ st2 b hb
    exact Heap.lt_size e
  have fpOk3 : ∀ b ∈ fp, FpOk X pins (upd H2 D (.lst [])) b ∧ b < s3.heap.objs.size := fun b hb => by
    have hlt := inS2 b hb
    refine ⟨⟨?_, (f2 b hb).2⟩, by rw [hp3, Heap.size_push]; exact Nat.lt_succ_of_lt hlt⟩
    rw [upd_ne (by rw [← hD]; exact Nat.ne_of_lt hlt)]
    exact (f2 b hb).1
  have tn3 : tn 0 s3.heap := T.keep _ _ _ st2 fun b _ o e => by rw [hp3]; exact Heap.get?_push_of_some _ e
  have I4 := block_start I3 bok nodN fpOk3
  have pgT := tgOk s3 (upd H2 D (.lst [])) s3.heap.objs.size (cellsFrom (s3.heap.objs.size + 1) scope.names (cloFrom X.env.cells scope.names [])) fp
  have ptT := tsOk s3 (upd H2 D (.lst [])) s3.heap.objs.size (cellsFrom (s3.heap.objs.size + 1) scope.names (cloFrom X.env.cells scope.names [])) fp
  have peT := eltOk s3 (upd H2 D (.lst [])) I3 fp (fun b hb => (fpOk3 b hb).1) s3.heap.objs.size (cellsFrom (s3.heap.objs.size + 1) scope.names (cloFrom X.env.cells scope.names []))
  show codeAny _ _ (.compStart (.ListComp elt [⟨tg, iter, ifs, 0⟩] scope pos) 0 (.ref it) (.ref D) (compEnvC scope (cellsFrom (s3.heap.objs.size + 1) scope.names (cloFrom X.env.cells scope.names [])) s3.heap.objs.size X.env)) (compPost (model X.prog X.w) X.A X.xe use Qf (.ref D) s3.heap.objs.size) { s3 with heap := pushCells (s3.heap.push { cls := .type "dict", data := .dict #[] }) scope.names }
  have noFp : ∀ b ∈ fp, (upd H2 D (.lst [])) b = none := fun b hb => (fpOk3 b hb).1.1
  generalize eCe : compEnvC scope (cellsFrom (s3.heap.objs.size + 1) scope.names (cloFrom X.env.cells scope.names [])) s3.heap.objs.size X.env = ce at I4 pgT ptT peT ⊢
  have locE : ce.locals = s3.heap.objs.size := by subst eCe; rfl
  generalize eH3 : upd H2 D (.lst []) = H3 at I3 I4 pgT ptT peT w0 noFp fpOk3
  generalize e4 : ({ s3 with heap := pushCells (s3.heap.push { cls := .type "dict", data := .dict #[] }) scope.names } : Shared) = s4 at I4 ⊢
  have tn4 : tn 0 s4.heap := T.keep _ _ _ tn3 fun b _ o e => by rw [← e4]; exact pushCells_keeps _ _ _ _ (Heap.get?_push_of_some _ e)
  have stays : ∀ {σ' : L2.St} {H' : Hp} {s' : Shared}, L2.Inv (X.blk s3 H3 scope ce fp) [] σ' H' s' → (∀ b ∈ fp, H' b = none) → ∀ b ∈ fp, FpOk (X.blk s3 H3 scope ce fp) [] H' b := fun {σ' H' s'} I' hn b hb =>
    ⟨hn b hb, (I'.ok.exf b hb).1, I'.ok.exfs b hb, .inl hb, fun x c e => (I'.ok.exf b hb).2 x c e, fun p hp => absurd (show p ∈ ([] : List (Addr × Obj)) ++ [] from hp) (by simp)⟩
  have runs_ : codeAny (model X.prog X.w) X.A (.compLoop (.ListComp elt [⟨tg, iter, ifs, 0⟩] scope pos) 0 (.ref it) (.ref D) ce) (compPost (model X.prog X.w) X.A X.xe use Qf (.ref D) s3.heap.objs.size) s4 := by
    refine compLoop_any (fun n s' => ∃ i H', L2.Inv (X.blk s3 H3 scope ce fp) [] (wipe σ (own.map (·.2))) H' s' ∧ tn i s'.heap ∧ (∀ b ∈ fp, H' b = none) ∧ W i n H') ?_ m0 ⟨0, H3, I4, tn4, noFp, w0⟩
    rintro n s5 ⟨i, H5, I5, st5, n5, w5⟩
    rcases turn i n H5 w5 with ⟨stop, qq⟩ | ⟨go, Nx, hNx, step⟩
    · have doneT := T.done (X.blk s3 H3 scope ce fp) rfl rfl rfl clm i [] s5 _ H5 (fun _ _ => False) I5 (stays I5 n5) st5 stop
      refine thnF doneT fun r s6 ⟨hr, I6⟩ => ?_
      subst hr
      -- back in the def's context
      have I7 : L2.Inv X pins σ H5 s6 := I3.call' (ch := fp) I6.os I6.base I6.hok I6.bare fun b hb => ⟨(fpOk3 b hb).1.2.2.2.1, (fpOk3 b hb).1.2.1, (fpOk3 b hb).1.2.2.2.2.1, (fpOk3 b hb).1.2.2.2.2.2⟩
      have noC : H5 s3.heap.objs.size = none := by
        have z : H5 ce.locals = none := I6.free
        rw [locE] at z
        exact z
      obtain ⟨m, hn, _⟩ := I6.loc
      have hn : s6.heap.Ns ce.locals m := hn
      rw [locE] at hn
      exact kOut D s3.heap.objs.size s6 m H5 I7 qq hn (I3.fpOk (Nat.le_refl _) noC)
    · have itemT := T.item (X.blk s3 H3 scope ce fp) rfl rfl rfl clm i [] s5 _ H5 (fun _ _ => False) I5 (stays I5 n5) st5 go
      refine thnF itemT fun r s6 ⟨u, hr, h6⟩ => ?_
      subst hr
      refine thnF h6 fun _ s7 ⟨x, H7, I7, r7, y7, st7, n7⟩ => ?_
      have I7' := I7.pinned (stays I7 n7) (T.obj _ _ st7)
      refine thnF (pgT.run _ s7 _ H7 x u _ I7' r7 (step x H7 y7)) fun _ s8 ⟨σ8, H8, I8, hw8, q8⟩ => ?_
      refine thnF (ptT.run _ s8 σ8 H8 _ I8 q8) fun b s9 ⟨H9, I9, q9⟩ => ?_
      -- the turn's end
      have endT : ∀ {s' : Shared} {H' : Hp}, L2.Inv (X.blk s3 H3 scope ce fp) ([] ++ pinsAt fp s7.heap) σ8 H' s' → Nx H' → ∃ m, m < n ∧ ∃ i H', L2.Inv (X.blk s3 H3 scope ce fp) [] (wipe σ (own.map (·.2))) H' s' ∧ tn i s'.heap ∧ (∀ b ∈ fp, H' b = none) ∧ W i m H' := fun {s' H'} I' nx => by
        obtain ⟨m', hm, w'⟩ := hNx H' nx
        have pin' : ∀ b ∈ fp, ∀ o, s7.heap.get? b = some o → s'.heap.get? b = some o ∧ H' b = none := fun b hb o e =>
          let z := I'.pin (b, o) (List.mem_append_right _ (List.mem_append_right _ (mem_pinsAt hb e)))
          ⟨z.1, z.2.1⟩
        have hl : (wipe σ (own.map (·.2))).length = σ8.length := by rw [← hw8, wipe_length]
        refine ⟨m', hm, i + 1, H', (I'.unpinned (pins := [])).weak hl (fun j v e => ?_), T.keep _ _ _ st7 fun b hb o e => (pin' b hb o e).1, fun b hb => ?_, w'⟩
        · rw [← hw8] at e
          exact (wipe_some e).1
        · obtain ⟨o, e, _⟩ := T.obj _ _ st7 b hb
          exact (pin' b hb o e).2
      cases b with
      | false =>
        simp only [Bool.false_eq_true, if_false] at q9 ⊢
        exact endT I9 q9
      | true =>
        simp only [if_true] at q9 ⊢
        refine thnF (peT.run _ s9 σ8 H9 _ I9 q9) fun z s10 ⟨yv, H10, I10, r10, acc, hD10, hz10, nx⟩ => ?_
        exact app_ok (X := X.blk s3 H3 scope ce fp) I10 hD10 hz10 r10 fun s11 I11 => endT I11 nx
  exact codeAny_compStart_list runs_ (T.self X.A 0 _ _ _ tn4 runs_)


theorem lcF_run {pins : List (Addr × Obj)} {s : Shared} {σ : L2.St} {H : Hp} {Q : VK} {elt tg iter : Expr} {ifs : List Expr} {scope : Scope} {own : List (Str × Nat)} {pos : Pos} {wi : TI} {g : TG} {tt : TT} {te : TE} (clm : X.calm = true) (nodN : X.N.Nodup) (I : L2.Inv X pins σ H s) (itOk : PI X tg iter wi) (bok : BlkOk X.N X.env.scope scope own)
    (tgOk : ∀ (s : Shared) (H : Hp) (C : Addr) (cl : List (Str × Addr)) (fp : List Addr), PG (X.blk s H scope (compEnvC scope cl C X.env) fp) tg g) (tsOk : ∀ (s : Shared) (H : Hp) (C : Addr) (cl : List (Str × Addr)) (fp : List Addr), PTs (X.blk s H scope (compEnvC scope cl C X.env) fp) ifs tt)
    (eltOk : ∀ (s : Shared) (H : Hp), L2.Inv X pins σ H s → ∀ (fp : List Addr), (∀ b ∈ fp, FpOk X pins H b) → ∀ (C : Addr) (cl : List (Str × Addr)), PE (X.blk s H scope (compEnvC scope cl C X.env) fp) elt te) (foldN : ∀ x, foldedSetIterable iter X.env x = pure x)
    (rdg : tLc wi g tt te (own.map (·.2)) σ H Q) : wpAny (model X.prog X.w) X.A (eval (.ListComp elt [⟨tg, iter, ifs, 0⟩] scope pos) X.env) (EP X pins σ Q) X.xe s := by
  rw [eval_ListComp]
  refine lcF_core clm nodN I itOk bok tgOk tsOk eltOk foldN rdg fun D C s' m H' I' q hn f => ⟨m, hn, fun h'' sb => ?_⟩
  obtain ⟨f0, f1, f2, f3, f4, f5⟩ := f
  exact ⟨.ref D, H', I'.turned (t' := s'.toks) (fun b o hb e => (sb.2 b hb).trans e) f0 f1 f3 f4 f5, rfl, q⟩
end
end Vi
/-! text Vc3 -/
set_option Elab.async false
set_option linter.all false
set_option maxRecDepth 100000
set_option maxHeartbeats 2000000
/-! Vc, part 3: a lambda that is called. -/
namespace Vi
open PySem PySem.Spec PyProof.Rows L2 NdefX LamX

/-- the lambda's text -/
structure LamT where
  params : Arguments
  body : Expr
  scope : Scope
/-- a lambda's object -/
def LamO (f : Addr) (q : Str) (L : LamT) (cl : List (Str × Addr)) (pm : Value) (c' : Addr) (ctv : Value) : HO := .ext fun h => h.get? f = some (PySem.W.kla_obj "<lambda>" q L.params L.body L.scope cl pm c' ctv)
theorem lamO_ok {P : Program} {w : World} {H' : Hp} {h : Heap} {f : Addr} {q : Str} {L : LamT} {cl : List (Str × Addr)} {pm : Value} {c' : Addr} {ctv : Value} (e : h.get? f = some (PySem.W.kla_obj "<lambda>" q L.params L.body L.scope cl pm c' ctv)) : ObjOk P w H' h f (LamO f q L cl pm c' ctv) :=
  ⟨e, ⟨_, e⟩, fun h1 h2 z st => st _ z⟩
/-- a lambda that stands: its object; its cells, what they hold; its code object -/
structure LamAt (q : Str) (L : LamT) (fr : List Str) (vs : List V) (s : Shared) (H F : Hp) (f c' : Addr) : Prop where
  obj : ∃ cl pm ctv, F f = some (LamO f q L cl pm c' ctv) ∧ CellsAt cl fr (vs.map some) s.heap H
  code : F c' = some (CodeO c' q)
theorem cells_un {cl : List (Str × Addr)} {fr : List Str} {ws : List (Option V)} {h h' : Heap} {H H' : Hp} {fs ex : List Addr} (C : CellsAt cl fr ws h H) (u : Un fs ex H H' h h') (hx : ∀ y c, cl.lookup y = some c → c ∉ ex) : CellsAt cl fr ws h' H' := by
  have k : ∀ {c : Addr} {v : Option Value}, H c = none → c ∉ ex → h.IsCell c v → h'.IsCell c v := fun {c v} n x ⟨o, ho, hd⟩ => by
    obtain ⟨sl, q⟩ := u.any ho n x
    exact ⟨_, q, hd⟩
  refine ⟨C.len, fun y c e => ?_, C.inj, fun i y e => ?_⟩
  · obtain ⟨n, v, z⟩ := C.all y c e
    obtain ⟨o, ho, _⟩ := id z
    exact ⟨u.free c o ho n (hx y c e), v, k n (hx y c e) z⟩
  · obtain ⟨c, e1, e2⟩ := C.has i y e
    refine ⟨c, e1, fun v hv => ?_⟩
    obtain ⟨w, r, z⟩ := e2 v hv
    exact ⟨w, r, k (C.all y c e1).1 (hx y c e1) z⟩
theorem LamAt.un {q : Str} {L : LamT} {fr : List Str} {vs : List V} {s s' : Shared} {H H' F F' : Hp} {f c' : Addr} {fs : List Addr} (Z : LamAt q L fr vs s H F f c') (u : Un fs [] H H' s.heap s'.heap) (hs : Sub F F') : LamAt q L fr vs s' H' F' f c' := by
  obtain ⟨cl, pm, ctv, ho, C⟩ := Z.obj
  exact ⟨⟨cl, pm, ctv, hs _ _ ho, cells_un C u fun _ _ _ => by simp⟩, hs _ _ Z.code⟩
theorem start_eq {fr : List Str} {vs : List V} (h : vs.length = fr.length) : startF fr [] (vs.map some) = L2.start fr vs := by
  unfold startF L2.start
  simp [h]
/-- what a call without arguments gives: some value, an error -/
inductive Rz where
  | ok | exc (c : Nat) (d : D)
def RzPost (W : Wd) (E : XK) (r : Rz) (F : Hp) (μ : List Addr) (h : List D) (H : Hp) (Q : VK) : Prop := match r with
  | .ok => ∀ F' μ' v H', Step W F μ (S0 h) [] H F' μ' (S0 h) [] H' → Q v H'
  | .exc c d => ∀ F' μ' H' dx v, Step W F μ (S0 h) [] H F' μ' (S0 h) [] H' → H' dx = some (.xd [("value", v)]) → DR W F' μ' d v → E (.ref (W.C c)) (some dx) H'
/-- what the lambda's body gives -/
def rzOf (m : M O) (L : Nat) (cds h : List D) (ok : List D → Bool) : Option Rz := match m (ent L cds h) with
  | .ok _ S' => if ok S'.h then some .ok else none
  | .exc c d S' => if ok S'.h then some (.exc c d) else none
  | .fail => none
section
variable {P : Program} {w : World} {K : PySem.W.Frag} {mg : Str → Option Value} {base : Heap} {A : Around} {outer : List Env} {s : Shared} {H F : Hp} {μ : List Addr} {Q : VK} {E : XK} {C : Cc} {q : Str} {L : LamT} {fr : List Str} {vs : List V} {f c' : Addr} {k : Nat} {cds h : List D} {m : M O} {r : Rz} {ok : List D → Bool}
abbrev lamF (q : Str) (L : LamT) (cl : List (Str × Addr)) (c' : Addr) : NF := ⟨"<lambda>", q, L.params, [], L.scope, cl, c'⟩
theorem lam_run (Z : LamAt q L fr vs s H F f c') (Sc : NScope fr [] fr L.scope)
    (hbind : ∀ (cl : List (Str × Addr)) (pm ctv : Value), bindArgs (PySem.W.kla_fn "<lambda>" q L.params L.body L.scope cl pm (.ref c') ctv) ⟨[], []⟩ = pure []) (hr : Room (k + 1) A) (hG : A.guards = some []) (e0 : Env0 P w K mg base A outer s H)
    (R : Rel ⟨P, w, K, C⟩ F μ (S0 h) [] H) (rd : DRs ⟨P, w, K, C⟩ F μ cds vs) (hz : rzOf m fr.length cds h ok = some r) (hok : ∀ h', ok h' = true → h' = h)
    (hbody : ∀ (cl : List (Str × Addr)), RoomG k (A.deeper (envF (lamF q L cl c') f s.heap.objs.size)) → PE (ncx (L2.CX P w) P w K mg base fr (lamF q L cl c') f A outer s H E) L.body (tE ⟨P, w, K, C⟩ E m))
    (p : RzPost ⟨P, w, K, C⟩ E r F μ h H Q) : codeAny (model P w) A (.call (.ref f) ⟨[], []⟩) (CR (L2.CX P w) outer P w H s Q E) s := by
  obtain ⟨cl, pm, ctv, hf, Ce⟩ := Z.obj
  have ho := (show ObjOk P w H s.heap f (LamO f q L cl pm c' ctv) from e0.hok f _ (R.sub _ _ hf)).1
  have hc := Z.code
  have hl : vs.length = fr.length := by have := Ce.len; simpa using this
  obtain ⟨oc, cvs, t, hoc, hdc, hvc⟩ := (show ObjOk P w H s.heap c' (CodeO c' q) from e0.hok c' _ (R.sub _ _ hc)).1
  have lim : s.heap.NoLimit := e0.mod.nolimit.keeps fun b o e => (e0.bs b o e).1
  refine PySem.W.kla_callFunE hr.depth ho rfl Sc.co Sc.gen rfl ⟨c', oc, cvs, t, rfl, hoc, hdc, hvc⟩ ?_
  rw [hbind]
  refine wpAny_pure (wpAny_newFunctionEnv Sc.nocell (fun y hy => absurd hy (by simp)) (fun h₁ hns hsb => ⟨lim.fresh _ hsb, ?_⟩) Sc.kind)
  have kp : ∀ b o, s.heap.get? b = some o → h₁.get? b = some o := fun b o e => hsb.extBut b o (Nat.ne_of_lt (Heap.lt_size e)) (Heap.get?_push_of_some _ e)
  show codeAny _ _ (.expr L.body (envF (lamF q L cl c') f s.heap.objs.size)) _ _
  have J : L2.Inv (ncx (L2.CX P w) P w K mg base fr (lamF q L cl c') f A outer s H E) [] (startF fr [] (vs.map some)) H { s with heap := h₁, toks := s.toks + ([] : List (Str × Value)).length } := inv_startN (ps := []) (us := []) (vs := []) Sc hr.hd e0 rfl .nil Ce hns kp
  rw [start_eq hl] at J
  have rd' := ent_rel R rd (N := fr) (by omega)
  have post : Post ⟨P, w, K, C⟩ E (OR ⟨P, w, K, C⟩) m F μ (ent fr.length cds h) (L2.start fr vs) H Q := by
    unfold rzOf at hz
    unfold Post
    split at hz
    · rename_i o S' e
      rw [e]
      split at hz
      · rename_i ho'
        cases hz
        have eh := hok _ ho'
        intro F' μ' b H' t _ _
        have t2 := t.out
        rw [eh] at t2
        exact p F' μ' b H' t2
      · cases hz
    · rename_i c d S' e
      rw [e]
      split at hz
      · rename_i ho'
        cases hz
        have eh := hok _ ho'
        intro F' μ' H' dx v t
        have t2 := t.out
        rw [eh] at t2
        exact p F' μ' H' dx v t2
      · cases hz
    · cases hz
  refine PySem.W.kla_codeExpr (wpAny_mono ((hbody cl ⟨hr.deeper _, hG⟩).run [] _ _ H Q J ⟨F, μ, _, rd', post⟩) (fun v s' hq => ?_) fun e s' hq => hq)
  obtain ⟨w', H', J', rv, q⟩ := hq
  exact ⟨w', H', J'.os, J'.bare, J'.base, J'.hok, rv, q⟩
end
end Vi
/-! text Vc4 -/
set_option Elab.async false
set_option linter.all false
set_option maxRecDepth 100000
set_option maxHeartbeats 2000000
/-! Vc, part 4: _law_caught. -/
namespace Vi
open PySem PySem.Spec PyProof.Rows L2 NdefX LamX

section
variable {W : Wd} {F F' : Hp} {μ μ' : List Addr} {S S' : St} {σ σ' : L2.St} {H H' : Hp} {dx : Addr} {fs : List (Str × V)}
/-- what is tracked of an error's dict is known for good from now on -/
theorem Step.fact (t : Step W F μ S σ H F' μ' S' σ' H') (e : H' dx = some (.xd fs)) : Step W F μ S σ H (upd F' dx (.xd fs)) μ' S' σ' H' := by
  have R := t.rel
  have hs : Sub F' (upd F' dx (.xd fs)) := fun b u q => by
    by_cases hb : b = dx
    · subst hb
      have z := R.sub b u q
      rw [e] at z
      cases z
      exact upd_same
    · rw [upd_ne hb]; exact q
  have nl : ∀ {a : Addr} {d : D}, Liv W F' μ' H' a d → a ≠ dx := fun {a d} l z => l.nnl ⟨_, by rw [z]; exact e, .inl ⟨fs, rfl⟩⟩
  refine ⟨t.sub.trans hs, t.pre, ⟨R.len, fun b u q => ?_, fun i d h => ?_, fun i d h => ?_, R.apart, R.hl, fun j d b h1 h2 => ?_, R.inj, R.tab.mono hs (fun b ps q z => by rw [upd_ne (fun w => by rw [w, e] at q; cases q)]; exact z) fun _ _ z => z⟩, t.keep, t.trk, t.own, t.fr, fun a h => ?_⟩
  · by_cases hb : b = dx
    · subst hb; rw [upd_same] at q; cases q; exact e
    · rw [upd_ne hb] at q; exact R.sub b u q
  · obtain ⟨v, h1, h2⟩ := R.sl i d h
    exact ⟨v, h1, h2.mono hs fun _ _ z => z⟩
  · obtain ⟨a, h1, h2, h3, h4⟩ := R.ow i d h
    exact ⟨a, h1, h2.mono hs (fun _ _ z => z) rfl, h3, by rw [upd_ne (nl h2)]; exact h4⟩
  · obtain ⟨h3, h4⟩ := R.hp j d b h1 h2
    exact ⟨h3.mono hs (fun _ _ z => z) rfl, by rw [upd_ne (nl h3)]; exact h4⟩
  · by_cases hb : a = dx
    · subst hb
      cases e0 : H a with
      | none => exact .inr (.inl rfl)
      | some u0 =>
        by_cases own : Own S σ a
        · exact .inr (.inr (.inl own))
        · by_cases nt : NT u0
          · by_cases hm : a ∈ μ
            · exfalso
              obtain ⟨j, hj, ej⟩ := List.getElem_of_mem hm
              have e1 : μ'[j]? = some a := t.pre j a (by rw [List.getElem?_eq_getElem hj, ej])
              have hj2 : j < S'.h.length := by rw [R.hl]; exact (List.getElem?_eq_some_iff.mp e1).1
              exact nl (R.hp j _ a (List.getElem?_eq_getElem hj2) e1).1 rfl
            · have q := t.keep a u0 e0 nt hm own
              rw [e] at q
              cases q
              exact .inr (.inr (.inr ⟨_, rfl, .inl ⟨fs, rfl⟩⟩))
          · have : ∃ ps, u0 = .tbl ps := Classical.byContradiction fun z => nt fun ps q => z ⟨ps, q⟩
            exact .inr (.inr (.inr ⟨u0, rfl, .inr this⟩))
    · rw [upd_ne hb]; exact t.fnew a h
theorem Step.newFt (t : Step W F μ S σ H F' μ' S' σ' H') {p : Addr} {o : HO} (hp : H' p = none) : Step W F μ S σ H (upd F' p o) μ' S' σ' (upd H' p o) := t.trans (Step.newF t.rel hp)
end
/-- what _law_caught gives -/
def CtPost (W : Wd) (r : Rz) (F : Hp) (μ : List Addr) (h : List D) (H : Hp) (Q : VK) : Prop := match r with
  | .ok => ∀ F' μ' H', Step W F μ (S0 h) [] H F' μ' (S0 h) [] H' → Q .non H'
  | .exc c d => ∀ F' μ' a H', Step W F μ (S0 h) [] H F' μ' (S0 h) [] H' → DR W F' μ' (.exc c d) (.ref a) → Q (.ref a) H'
def Rz.okN (n : Nat) : Rz → Bool
  | .ok => true
  | .exc c _ => decide (c < n)
/-- the text of _law_caught -/
structure CtF (K : PySem.W.Frag) (mg : Str → Option Value) (C : Cc) (n : Nat) (x : Str) (body : List Stmt) (scope : Scope) : Prop where
  body : ∃ (p1 p2 p3 p4 p5 p6 p7 p8 p9 np : Pos) (j : Nat), body = [.Try [.Expr (.Call (.Name "call" p1) [] [] p2) p3] [.ExceptHandler (some (.Name x np)) (some "caught") [.Return (some (.Name "caught" p4)) p5] p6] [] [] p7, .Return (some (.Constant .none j p8)) p9]
  sc : FnScope ["call", "caught"] ["call"] scope
  l1 : scope.names.lookup ("call" : Str) = some .local
  l2 : scope.names.lookup ("caught" : Str) = some .local
  gl : scope.names.lookup x = some .globalImplicit
  nm : (x == ("__debug__" : Str)) = false
  mg : mg x = some (.ref (C 0))
  exm : ∀ c, c < n → PySem.W.exmOne K (.ref (C c)) (.ref (C 0)) = some true
/-- the text of a lambda, its meaning -/
structure LamB (P : Program) (w : World) (K : PySem.W.Frag) (mg : Str → Option Value) (base : Heap) (C : Cc) (k : Nat) (q : Str) (L : LamT) (fr : List Str) (m : M O) : Prop where
  sc : NScope fr [] fr L.scope
  bind : ∀ (c' : Addr) (cl : List (Str × Addr)) (pm ctv : Value), bindArgs (PySem.W.kla_fn "<lambda>" q L.params L.body L.scope cl pm (.ref c') ctv) ⟨[], []⟩ = pure []
  body : ∀ (A : Around) (outer : List Env) (s : Shared) (H : Hp) (E : XK) (f c' : Addr) (cl : List (Str × Addr)), RoomG k (A.deeper (envF (lamF q L cl c') f s.heap.objs.size)) → PE (ncx (L2.CX P w) P w K mg base fr (lamF q L cl c') f A outer s H E) L.body (tE ⟨P, w, K, C⟩ E m)
section
variable {P : Program} {w : World} {K : PySem.W.Frag} {mg : Str → Option Value} {base : Heap} {A : Around} {outer : List Env} {s : Shared} {H F : Hp} {μ : List Addr} {Q : VK} {E : XK} {C : Cc} {q : Str} {L : LamT} {fr : List Str} {vs : List V} {f c' fC : Addr} {k n : Nat} {cds h : List D} {m : M O} {r : Rz} {ok : List D → Bool}
  {x : Str} {name qual : Str} {params : Arguments} {body : List Stmt} {scope : Scope} {dV kV doc pm cdv ct oc : Value} {an od : Option Addr} {osl : Array (Option Value)} {args : Args}
theorem caught_run (G : CtF K mg C n x body scope) (lk : K.lookup fC = some ⟨oc, od, .func (PySem.W.fnOf name qual params body scope dV kV doc pm an cdv ct), osl⟩) (hcd : PySem.W.codeIn K cdv qual = true) (B : LamB P w K mg base C k q L fr m)
    (Z : LamAt q L fr vs s H F f c') (hr : RoomG (k + 2) A) (e0 : Env0 P w K mg base A outer s H) (hb : BindsTo s (PySem.W.fnOf name qual params body scope dV kV doc pm an cdv ct) args ([("call" : Str)].zip [.ref f]))
    (R : Rel ⟨P, w, K, C⟩ F μ (S0 h) [] H) (rd : DRs ⟨P, w, K, C⟩ F μ cds vs) (hz : rzOf m fr.length cds h ok = some r) (hok : ∀ h', ok h' = true → h' = h) (hn : r.okN n = true) (p : CtPost ⟨P, w, K, C⟩ r F μ h H Q) :
    codeAny (model P w) A (.call (.ref fC) args) (CR (L2.CX P w) outer P w H s Q E) s := by
  obtain ⟨p1, p2, p3, p4, p5, p6, p7, p8, p9, np, j, hbd⟩ := G.body
  subst hbd
  refine LamX.run_ofS (N := ["call", "caught"]) (ps := ["call"]) (us := [.ref f]) (vs := [.ref f]) lk hcd G.sc (k := k + 1) hr.1 e0 hb (.cons rfl .nil) rfl fun hr' => ?_
  generalize hX : cxOf (L2.CX P w) P w K mg base ["call", "caught"] qual scope fC cdv A outer s H E = X
  have xs0 : X.s_0 = s := by rw [← hX]; rfl
  have act : ∀ (Wx : WX) (pn : List (Addr × Obj)) (xe : Value → Shared → Prop), Takes (X.tr pn xe) Wx → PassesOwn (model X.prog X.w) X.A X.env xe → PSs (X.tr pn xe) [.Expr (.Call (.Name "call" p1) [] [] p2) p3]
      ((fun (Wx : WX) (D : Ends) (σ : L2.St) (H1 : Hp) => σ[0]? = some (some (.ref f)) ∧ ∃ F1 μ1, Rel ⟨P, w, K, C⟩ F1 μ1 (S0 h) [] H1 ∧ Sub F F1 ∧ DRs ⟨P, w, K, C⟩ F1 μ1 cds vs ∧ RzPost ⟨P, w, K, C⟩ (fun cls d H2 => ∀ σ', Wx cls d σ' H2) r F1 μ1 h H1 fun _ H2 => D.nx σ H2) Wx) := by
    intro Wx pn xe tk _
    refine pssW' (pss_one (ps_expr (te := fun σ H1 Q1 => σ[0]? = some (some (.ref f)) ∧ ∃ F1 μ1, Rel ⟨P, w, K, C⟩ F1 μ1 (S0 h) [] H1 ∧ Sub F F1 ∧ DRs ⟨P, w, K, C⟩ F1 μ1 cds vs ∧ RzPost ⟨P, w, K, C⟩ (fun cls d H2 => ∀ σ', Wx cls d σ' H2) r F1 μ1 h H1 Q1) ⟨fun pins s1 σ1 H1 Q1 I1 ⟨hs, F1, μ1, R1, hc1, rd1, p1'⟩ => ?_⟩ rfl)) fun D σ H h => h
    subst hX
    refine wpAny_Call_Name_kw (thn ((pe_var (i := 0) rfl (.inl G.l1)).run pins s1 σ1 H1 (fun v H2 => v = .ref f ∧ H2 = H1) I1 ⟨.ref f, hs, rfl, rfl⟩) fun u s2 ⟨v, H2, I2, r2, ev, eH⟩ => ?_)
    subst ev
    subst eH
    obtain rfl : u = Value.ref f := r2
    have un : Un (frs outer) [] H H2 s.heap s2.heap := I2.base
    have Z2 := Z.un un hc1
    obtain ⟨cl, pm', ctv, hf, _⟩ := Z2.obj
    have ho := (show ObjOk P w H2 s2.heap f (LamO f q L cl pm' c' ctv) from I2.hok f _ (R1.sub _ _ hf)).1
    refine PySem.W.callWith_F0 ⟨_, _, _, _, ho⟩ ?_
    have rc := lam_run (A := A.deeper (envOfC qual scope s.heap.objs.size fC cdv)) (Q := Q1) (E := fun cls d H2 => ∀ σ', Wx cls d σ' H2) Z2 B.sc (fun cl pm ctv => B.bind c' cl pm ctv) hr' hr.2 I2.env0 R1 rd1 hz hok (fun cl hr2 => B.body _ _ _ _ _ _ _ cl hr2) p1'
    refine wpAny_call (codeAny_mono rc fun rr s' hq => ?_)
    cases rr with
    | error e => exact passes_call tk (fun _ _ _ _ h => h _) pins σ1 H2 s2 e s' I2 hq
    | ok fl =>
      cases fl with
      | ret u => exact I2.after hq
      | next => exact False.elim hq
      | brk => exact False.elim hq
      | cont => exact False.elim hq
  have names : Names X x (.ref (C 0)) := by
    subst hX
    exact ⟨G.gl, G.nm, .inl G.mg⟩
  have st := pss_cons (ps_caught (X := X) (i := 1) (c := .ref (C 0)) (p1 := p4) (p2 := p5) (pos := p7) (pos' := p6) (np := np) (by subst hX; rfl) (by subst hX; rfl) (by subst hX; rfl) (by subst hX; exact G.sc.nd) (by subst hX; rfl) (by subst hX; exact G.l2) (by decide) (by decide) names act) (pss_one (ps_ret (pos := p9) (pe_non (X := X) (j := j) (pos := p8))))
  refine ⟨_, st, ?_⟩
  show ([some (V.ref f), none] : List (Option V))[0]? = _ ∧ _
  refine ⟨rfl, F, μ, R, Sub.refl F, rd, ?_⟩
  unfold RzPost
  unfold CtPost at p
  cases r with
  | ok => exact fun F' μ' v H' t => p F' μ' H' t
  | exc c d =>
    intro F' μ' H' dx v t hdx dr σ'
    have hcn : c < n := of_decide_eq_true hn
    have xK : X.K = K := by rw [← hX]; rfl
    refine ⟨C c, dx, v, rfl, rfl, by rw [xK]; exact G.exm c hcn, hdx, fun a ha => ?_⟩
    have t2 := (t.fact hdx).newFt (p := a) (o := ExV a (C c) dx) ha
    have hne : dx ≠ a := fun z => by rw [z, ha] at hdx; cases hdx
    refine p _ _ a _ t2 (.exc upd_same ?_ (dr.mono (fun b u q => ?_) fun _ _ z => z))
    · rw [upd_ne hne, upd_same]
    · exact Step.sub ((Step.refl t.rel).fact hdx |>.newFt (p := a) (o := ExV a (C c) dx) ha) b u q
end
end Vi
/-! text Vc5 -/
set_option Elab.async false
set_option linter.all false
set_option maxRecDepth 100000
set_option maxHeartbeats 2000000
/-! Vc, part 5: _law_is_raised. -/
namespace Vi
open PySem PySem.Spec PyProof.Rows L2 NdefX LamX

section
variable {W : Wd} {F F' : Hp} {μ μ' : List Addr} {S S' : St} {σ σ' : L2.St} {H H' : Hp}
theorem Step.outS (t : Step W F μ S σ H F' μ' S' σ' H') (hno : ∀ a, ¬ Own S σ a) : Step W F μ (S0 S.h) [] H F' μ' (S0 S'.h) [] H' :=
  ⟨t.sub, t.pre, Rel.bare t.rel, fun a u h1 nt h2 _ => t.keep a u h1 nt h2 (hno a), t.trk, fun a z => absurd z no_own, t.fr, fun a z => (t.fnew a z).elim .inl fun z => z.elim (fun z => .inr (.inl z)) fun z => z.elim (fun z => absurd z (hno a)) fun z => .inr (.inr (.inr z))⟩
end
/-- the caught error as a tree -/
def Rz.tree : Rz → D
  | .ok => .non
  | .exc c d => .exc c d
/-- the rest of the body, behind the first statement -/
def isrSt (due : D) (r : Rz) (n : Nat) (h : List D) : St := ⟨.e :: .s due :: .s r.tree :: List.replicate n .e, h⟩
theorem isr_own {due : D} {r : Rz} {n : Nat} {h : List D} {σ : L2.St} {a : Addr} : ¬ Own (isrSt due r n h) σ a := fun ⟨i, d, e, _⟩ => by
  have := List.mem_of_getElem? e
  simp [isrSt] at this
/-- the rest gives True -/
def isrOk (rest : MS) (n : Nat) (due : D) (r : Rz) (h : List D) (ok : List D → Bool) : Bool := match rest (isrSt due r n h) with
  | .rt (.v (.bl true)) S' => ok S'.h
  | _ => false
/-- the text of _law_is_raised: its first statement -/
structure IsF (K : PySem.W.Frag) (mg : Str → Option Value) (xC : Str) (fC : Addr) (N : List Str) (st : Stmt) (scope : Scope) : Prop where
  st : ∃ (px p1 p2 p3 p4 : Pos), st = .Assign [.Name "caught" px] (.Call (.Name xC p1) [.Name "call" p2] [] p3) p4
  nms : ∃ r, N = ("call" : Str) :: "due" :: "caught" :: r
  sc : FnScope N ["call", "due"] scope
  l1 : scope.names.lookup ("call" : Str) = some .local
  l2 : scope.names.lookup ("caught" : Str) = some .local
  gl : scope.names.lookup xC = some .globalImplicit
  nm : (xC == ("__debug__" : Str)) = false
  mg : mg xC = some (.ref fC)
  kp : PySem.W.keepIn K (.ref fC) = true
section
variable {P : Program} {w : World} {K : PySem.W.Frag} {mg : Str → Option Value} {base : Heap} {A : Around} {outer : List Env} {s : Shared} {H F : Hp} {μ : List Addr} {Q : VK} {E : XK} {C : Cc} {q : Str} {L : LamT} {fr : List Str} {vs : List V} {f c' fC fI : Addr} {k n : Nat} {cds h : List D} {m : M O} {r : Rz} {ok : List D → Bool}
  {xM xC : Str} {nameC qualC name qual : Str} {paramsC params : Arguments} {bodyC rest : List Stmt} {st : Stmt} {scopeC scope : Scope} {dVC kVC docC pmC cdvC ctC ocC dV kV doc pm cdv ct oc : Value} {anC odC an od : Option Addr} {oslC osl : Array (Option Value)} {args : Args} {N : List Str} {due : D} {u : Value} {v : V} {ms : MS}
theorem isr_run (J : IsF K mg xC fC N st scope) (lk : K.lookup fI = some ⟨oc, od, .func (PySem.W.fnOf name qual params (st :: rest) scope dV kV doc pm an cdv ct), osl⟩) (hcd : PySem.W.codeIn K cdv qual = true)
    (G : CtF K mg C n xM bodyC scopeC) (lkC : K.lookup fC = some ⟨ocC, odC, .func (PySem.W.fnOf nameC qualC paramsC bodyC scopeC dVC kVC docC pmC anC cdvC ctC), oslC⟩) (hcdC : PySem.W.codeIn K cdvC qualC = true) (hbC : Binds K (PySem.W.fnOf nameC qualC paramsC bodyC scopeC dVC kVC docC pmC anC cdvC ctC) ["call"] [])
    (B : LamB P w K mg base C k q L fr m)
    (Z : LamAt q L fr vs s H F f c') (hr : RoomG (k + 3) A) (e0 : Env0 P w K mg base A outer s H) (hb : BindsTo s (PySem.W.fnOf name qual params (st :: rest) scope dV kV doc pm an cdv ct) args ([("call" : Str), "due"].zip [.ref f, u]))
    (R : Rel ⟨P, w, K, C⟩ F μ (S0 h) [] H) (rd : DRs ⟨P, w, K, C⟩ F μ cds vs) (ru : RelV v u) (rdu : DR ⟨P, w, K, C⟩ F μ due v) (hz : rzOf m fr.length cds h ok = some r) (hok : ∀ h', ok h' = true → h' = h) (hn : r.okN n = true)
    (hrest : ∀ E, RoomG (k + 2) (cxOf (L2.CX P w) P w K mg base N qual scope fI cdv A outer s H E).A → PSs (cxOf (L2.CX P w) P w K mg base N qual scope fI cdv A outer s H E) rest (tS ⟨P, w, K, C⟩ E ms)) (hms : isrOk ms (N.length - 3) due r h ok = true)
    (p : ∀ F' μ' H', Step ⟨P, w, K, C⟩ F μ (S0 h) [] H F' μ' (S0 h) [] H' → Q (.bl true) H') :
    codeAny (model P w) A (.call (.ref fI) args) (CR (L2.CX P w) outer P w H s Q E) s := by
  obtain ⟨px, p1, p2, p3, p4, est⟩ := J.st
  subst est
  obtain ⟨Nr, hN⟩ := J.nms
  refine LamX.run_ofS (N := N) (ps := ["call", "due"]) (us := [.ref f, u]) (vs := [.ref f, v]) lk hcd J.sc (k := k + 2) hr.1 e0 hb (.cons rfl (.cons ru .nil)) rfl fun hr' => ?_
  have hrest' := hrest E ⟨hr', hr.2⟩
  generalize hX : cxOf (L2.CX P w) P w K mg base N qual scope fI cdv A outer s H E = X at hrest'
  have i0 : X.N[0]? = some ("call" : Str) := by rw [← hX]; show N[0]? = _; rw [hN]; rfl
  have i2 : X.N[2]? = some ("caught" : Str) := by rw [← hX]; show N[2]? = _; rw [hN]; rfl
  have act : PE X (.Call (.Name xC p1) [.Name "call" p2] [] p3) (fun σ H1 Q1 => σ[0]? = some (some (.ref f)) ∧ H1 = H ∧ ∀ F' μ' v' H', Step ⟨P, w, K, C⟩ F μ (S0 h) [] H F' μ' (S0 h) [] H' → DR ⟨P, w, K, C⟩ F' μ' r.tree v' → Q1 v' H') := by
    refine ⟨fun pins s1 σ1 H1 Q1 I1 ⟨hs, eH, p1'⟩ => ?_⟩
    subst hX
    refine wpAny_Call_Name_kw (ld_glob I1 J.gl J.mg ?_ J.nm)
    refine PySem.W.callWith_K (h₀ := base) I1.ok.mod.kin J.kp (thn ((pa_cons (pe_var (i := 0) i0 (.inl J.l1)) pa_nil rfl).run p3 pins s1 σ1 H1 (fun vs H2 => vs = [.ref f] ∧ H2 = H1) I1 ⟨.ref f, hs, rfl, rfl⟩) fun us s2 ⟨vs', H2, I2, rv, ev, eH2⟩ => ⟨I2.kIn, ?_⟩) rfl rfl
    subst ev
    subst eH2
    subst eH
    obtain ⟨u', rfl, ru'⟩ := vals1 rv
    obtain rfl : u' = Value.ref f := ru'
    have un : Un (frs outer) [] H2 H2 s.heap s2.heap := I2.base
    have Z2 := Z.un un (Sub.refl F)
    have hbC2 := hbC s2 [.ref f] I2.kIn rfl
    have rc := caught_run (A := A.deeper (envOfC qual scope s.heap.objs.size fI cdv)) (Q := Q1) (E := fun _ _ _ => False) G lkC hcdC B Z2 ⟨hr', hr.2⟩ I2.env0 hbC2 R rd hz hok hn (by
      unfold CtPost
      cases r with
      | ok => exact fun F' μ' H' t => p1' F' μ' .non H' t .non
      | exc c d => exact fun F' μ' a H' t dr => p1' F' μ' (.ref a) H' t dr)
    refine wpAny_call (codeAny_mono rc fun rr s' hq => ?_)
    cases rr with
    | error e => exact passes_call (LamX.takes0 (X := cxOf (L2.CX P w) P w K mg base N qual scope fI cdv A outer s H2 E)) (fun _ _ _ _ h => h) pins σ1 H2 s2 e s' I2 hq
    | ok fl =>
      cases fl with
      | ret u => exact I2.after hq
      | next => exact False.elim hq
      | brk => exact False.elim hq
      | cont => exact False.elim hq
  have lX : X.env.scope = scope := by rw [← hX]; rfl
  have st := pss_cons (ps_set (X := X) (i := 2) (pos' := px) (pos := p4) (by rw [← hX]; exact J.sc.nd) i2 (by rw [lX]; exact .inl J.l2) act rfl (.inr (by rw [lX]; exact J.l2))) (by have := hrest'; exact this)
  refine ⟨_, st, ?_⟩
  have est : L2.start N [.ref f, v] = some (V.ref f) :: some v :: none :: List.replicate Nr.length none := by
    unfold L2.start
    rw [hN]
    simp [List.replicate_succ]
  show (L2.start N [.ref f, v])[0]? = _ ∧ _
  refine ⟨by rw [est]; rfl, rfl, fun F' μ' v' H' t dr => ?_⟩
  show tS _ _ _ _ ((L2.start N [.ref f, v]).set 2 (some v')) H'
  have eN : N.length - 3 = Nr.length := by rw [hN]; rfl
  rw [est]
  show tS _ _ _ _ (some (V.ref f) :: some v :: some v' :: List.replicate Nr.length none) H'
  have R2 : Rel ⟨P, w, K, C⟩ F' μ' (isrSt due r (N.length - 3) h) (some (V.ref f) :: some v :: some v' :: List.replicate Nr.length none) H' := by
    have Rt := t.rel
    refine ⟨by simp [isrSt, eN], Rt.sub, fun i d e => ?_, fun i d e => absurd (List.mem_of_getElem? e) (by simp [isrSt]), fun i j d e a h1 => absurd (List.mem_of_getElem? h1) (by simp [isrSt]), Rt.hl, Rt.hp, Rt.inj, Rt.tab⟩
    match i, e with
    | 0, e => cases e
    | 1, e => cases e; exact ⟨v, rfl, rdu.mono t.sub t.pre⟩
    | 2, e => cases e; exact ⟨v', rfl, dr⟩
    | i + 3, e =>
      have e' : (List.replicate (N.length - 3) Sl.e)[i]? = some (.s d) := e
      exact absurd (List.mem_of_getElem? e') (by simp)
  refine ⟨F', μ', _, R2, ?_⟩
  unfold isrOk at hms
  unfold PostS
  split at hms
  · rename_i S' e
    rw [e]
    intro F2 μ2 σ2 v2 H2 t2 ro
    have t3 := t2.outS fun a => isr_own
    rw [hok _ hms] at t3
    cases (show DR ⟨P, w, K, C⟩ F2 μ2 (.bl true) v2 from ro)
    exact p F2 μ2 H2 (t.trans t3)
  · cases hms
end
end Vi
/-! text Vc6 -/
set_option Elab.async false
set_option linter.all false
set_option maxRecDepth 100000
set_option maxHeartbeats 2000000
/-! Vc, part 6: a lambda is made. -/
namespace Vi
open PySem PySem.Spec PyProof.Rows L2 NdefX LamX

section
variable {W : Wd} {F : Hp} {μ : List Addr} {S : St} {σ : L2.St} {H : Hp} {P c' : Addr} {ps more : Array Value} {q : Str}
/-- the table tells one more code object, that is new -/
theorem Step.table (R : Rel W F μ S σ H) (hP : H P = some (.tbl ps)) (hm : (P, q) ∈ W.C.T) (nC : H c' = none) (ht : TriplesOk ps.toList) (pos : Pos) (hu : ∀ p ∈ W.C.T, p.1 = P → p.2 = q) (em : more = #[rawInt pos.line, rawInt pos.col, .ref c']) :
    Step W F μ S σ H (upd F c' (CodeO c' q)) μ S σ (upd (upd H P (.tbl (ps ++ more))) c' (CodeO c' q)) := by
  have hs : Sub F (upd F c' (CodeO c' q)) := Sub.upd (R.noF nC)
  have hFP : F P = none := (R.tab _ hm).1
  have nPc : P ≠ c' := fun z => by rw [z, nC] at hP; cases hP
  have nc : ∀ {a : Addr} {u : HO}, H a = some u → a ≠ c' := fun e z => by rw [z, nC] at e; cases e
  have at_ : ∀ {a : Addr}, a ≠ P → a ≠ c' → upd (upd H P (.tbl (ps ++ more))) c' (CodeO c' q) a = H a := fun h1 h2 => by rw [upd_ne h2, upd_ne h1]
  have lv : ∀ {a : Addr} {d : D}, Liv W F μ H a d → a ≠ P ∧ a ≠ c' := fun {a d} l => ⟨fun z => l.ntb ps (by rw [z]; exact hP), fun z => l.trk (by rw [z]; exact nC)⟩
  have eL : (ps ++ more).toList = ps.toList ++ [rawInt pos.line, rawInt pos.col, .ref c'] := by rw [em]; simp
  refine ⟨hs, fun _ _ z => z, ⟨R.len, fun b u e => ?_, fun i d e => ?_, fun i d e => ?_, R.apart, R.hl, fun j d b h1 h2 => ?_, R.inj, fun p hp => ?_⟩, fun a u e nt _ _ => ?_, fun a e => ?_, fun a z => .inl z, fun a z => .inl z, fun a z => ?_⟩
  · by_cases hb : b = c'
    · subst hb; rw [upd_same] at e ⊢; exact e
    · rw [upd_ne hb] at e
      have hbP : b ≠ P := fun z => by rw [z, hFP] at e; cases e
      rw [at_ hbP hb]; exact R.sub b u e
  · obtain ⟨v, h1, h2⟩ := R.sl i d e
    exact ⟨v, h1, h2.mono hs fun _ _ z => z⟩
  · obtain ⟨a, h1, h2, h3, h4⟩ := R.ow i d e
    obtain ⟨n1, n2⟩ := lv h2
    exact ⟨a, h1, h2.mono hs (fun _ _ z => z) (at_ n1 n2), h3, by rw [upd_ne n2]; exact h4⟩
  · obtain ⟨h3, h4⟩ := R.hp j d b h1 h2
    obtain ⟨n1, n2⟩ := lv h3
    exact ⟨h3.mono hs (fun _ _ z => z) (at_ n1 n2), by rw [upd_ne n2]; exact h4⟩
  · obtain ⟨h0, qs, h1, h2, h3⟩ := R.tab p hp
    have npc := nc h1
    refine ⟨by rw [upd_ne npc]; exact h0, ?_⟩
    by_cases hb : p.1 = P
    · rw [hb, hP] at h1
      cases h1
      refine ⟨_, by rw [hb, upd_ne nPc, upd_same], by rw [eL]; exact PySem.TriplesOk_snoc _ _ _ _ h2, fun p' cv hcv => ?_⟩
      rw [eL] at hcv
      rcases among_app _ h2 hcv with z | z
      · obtain ⟨c0, e1, e2⟩ := h3 p' cv z
        exact ⟨c0, e1, hs _ _ e2⟩
      · exact ⟨c', z, by rw [hu p hp hb]; exact upd_same⟩
    · refine ⟨qs, by rw [at_ hb npc]; exact h1, h2, fun p' cv hcv => ?_⟩
      obtain ⟨c0, e1, e2⟩ := h3 p' cv hcv
      exact ⟨c0, e1, hs _ _ e2⟩
  · rw [at_ (fun z => by rw [z, hP] at e; cases e; exact nt ps rfl) (nc e)]; exact e
  · by_cases h1 : a = c'
    · rw [h1]; exact nC
    · by_cases h2 : a = P
      · rw [h2, upd_ne nPc, upd_same] at e; cases e
      · rw [at_ h2 h1] at e; exact e
  · by_cases h1 : a = c'
    · rw [h1]; exact .inr (.inl nC)
    · rw [upd_ne h1]; exact .inl z
end
section
variable {X : Cx} {pins : List (Addr × Obj)} {σ : L2.St} {H F : Hp} {μ : List Addr} {S : Vi.St} {s : Shared} {C : Cc} {L : LamT}
theorem pe_lamF {c P : Addr} {pos : Pos} (TB : TabB X.base X.mg c P) (hcode : X.env.code = .ref c)
    (hm : (P, X.env.qual ++ "<lambda>") ∈ C.T) (hu : ∀ p ∈ C.T, p.1 = P → p.2 = X.env.qual ++ "<lambda>") (hdef : defaultsOf L.params X.env = ([], [])) (hfr : ∀ y ∈ L.scope.names, y.2 = .free → X.env.scope.names.lookup y.1 = some .cell ∨ X.env.scope.names.lookup y.1 = some .free) :
    PE X (.Lambda L.params L.body L.scope pos) (fun σ H Q => ∃ F μ S, Rel (wd X C) F μ S σ H ∧ ∀ (f c' : Addr) (pm ctv : Value) (F1 H1 : Hp), Step (wd X C) F μ S σ H F1 μ S σ H1 → H f = none →
      F1 c' = some (CodeO c' (X.env.qual ++ "<lambda>")) → F1 f = some (LamO f (X.env.qual ++ "<lambda>") L (cloFrom X.env.cells L.scope.names []) pm c' ctv) → Q (.ref f) H1) := by
  refine ⟨fun pins s σ H Q I ⟨F, μ, S, R, h⟩ => ?_⟩
  have hfree : ∀ y ∈ L.scope.names, y.2 = .free → ∃ c, X.env.cells.lookup y.1 = some c := fun y hy e => (hfr y hy e).elim (fun z => I.ok.has _ (.inl z)) fun z => I.ok.has _ (.inr z)
  obtain ⟨hFP, ps, hP, ht, ha⟩ := R.tab _ hm
  have hP : H P = some (.tbl ps) := hP
  refine PySem.W.kla_eval hdef ?_
  have bP : s.heap.BuiltinsAt X.mg P := TB.bm.keeps I.bk
  have hP' : s.heap.get? P = some { cls := .none, data := .fields ps } := I.hok P _ hP
  have fin : ∀ {f c' : Addr} {pm ctv : Value} {F1 H1 : Hp} {s' : Shared}, L2.Inv X pins σ H1 s' → s.heap.objs.size ≤ f → s'.heap.get? f = some (PySem.W.kla_obj "<lambda>" (X.env.qual ++ "<lambda>") L.params L.body L.scope (cloFrom X.env.cells L.scope.names []) pm c' ctv) → H1 f = none → Step (wd X C) F μ S σ H F1 μ S σ H1 → F1 c' = some (CodeO c' (X.env.qual ++ "<lambda>")) →
      EP X pins σ Q (.ref f) s' := fun {f c' pm ctv F1 H1 s'} I1 hf e n t hc => by
    have h0 : X.s_0.heap.get? f = none := by
      cases q : X.s_0.heap.get? f with
      | none => rfl
      | some o => exact absurd (Nat.lt_of_lt_of_le (Heap.lt_size q) (Nat.le_trans I.sz hf)) (Nat.lt_irrefl _)
    have np : ∀ p ∈ X.pn ++ pins, p.1 ≠ f := fun p hp z => by
      have q := Heap.lt_size (I.pin p hp).1
      rw [z] at q
      exact Nat.lt_irrefl _ (Nat.lt_of_lt_of_le q hf)
    have J := Inv.trackN (o := LamO f (X.env.qual ++ "<lambda>") L (cloFrom X.env.cells L.scope.names []) pm c' ctv) I1 e (fun v z => by cases z) n h0 (Nat.ne_of_gt (Nat.lt_of_lt_of_le I.lt hf)) np (lamO_ok e)
    have hne : c' ≠ f := fun z => by
      have q := t.rel.sub _ _ hc
      rw [z, n] at q; cases q
    exact ⟨.ref f, _, J, rfl, h f c' pm ctv _ _ (t.newFt (o := LamO f (X.env.qual ++ "<lambda>") L (cloFrom X.env.cells L.scope.names []) pm c' ctv) n) (I.hok.fresh hf) (by rw [upd_ne hne]; exact hc) upd_same⟩
  cases hc : codeAmong pos ps.toList with
  | none =>
    refine PySem.W.kla_makeFunction (mg := X.mg) (c := c) (P := P) (ps := ps) (closure_ok hfree) I.ok.glob (I.mod.glob.keeps I.bk) hcode (TB.code.keeps I.bk) hP' ht hc TB.gP bP fun c' ctv h' tk hx hge hlt hrec htb => ?_
    obtain ⟨c2, oc, vs, t, e2, hoc, hd, hv⟩ := hrec
    cases e2
    have hsz : s.heap.objs.size ≤ h'.objs.size := Nat.le_trans hge (Nat.le_of_lt hlt)
    have nC : H c' = none := I.hok.fresh hge
    have I1 := inv_table (t' := tk) (more := #[rawInt pos.line, rawInt pos.col, .ref c']) (h' := h'.push (PySem.W.kla_obj "<lambda>" (X.env.qual ++ "<lambda>") L.params L.body L.scope (cloFrom X.env.cells L.scope.names []) ((X.mg "__name__").getD .none) c' ctv)) I hP
      (fun b o hb e => Heap.get?_push_of_some _ (hx b o hb e)) (Heap.get?_push_of_some _ htb) hge ⟨oc, vs, t, Heap.get?_push_of_some _ hoc, hd, hv⟩
    have nf : (upd (upd H P (.tbl (ps ++ #[rawInt pos.line, rawInt pos.col, .ref c']))) c' (CodeO c' (X.env.qual ++ "<lambda>"))) h'.objs.size = none := by
      have n1 : h'.objs.size ≠ c' := Nat.ne_of_gt hlt
      have n2 : h'.objs.size ≠ P := Nat.ne_of_gt (Nat.lt_of_lt_of_le (Heap.lt_size hP') hsz)
      rw [upd_ne n1, upd_ne n2]
      exact I.hok.fresh hsz
    exact fin I1 hsz (Heap.get?_push_size _ rfl) nf (Step.table R hP hm nC ht pos hu rfl) upd_same
  | some cv =>
    obtain ⟨c', e, hco⟩ := ha pos cv hc
    subst e
    have hcoH := R.sub _ _ hco
    refine PySem.W.kla_makeFunctionHit (mg := X.mg) (c := c) (P := P) (ps := ps) (closure_ok hfree) I.ok.glob (I.mod.glob.keeps I.bk) hcode (TB.code.keeps I.bk) hP' ht hc bP fun ctv h' tk hx hsz => ?_
    have I1 : L2.Inv X pins σ H { s with heap := h'.push (PySem.W.kla_obj "<lambda>" (X.env.qual ++ "<lambda>") L.params L.body L.scope (cloFrom X.env.cells L.scope.names []) ((X.mg "__name__").getD .none) c' ctv), toks := tk } := I.kept fun b o e => Heap.get?_push_of_some _ (hx b o e)
    exact fin I1 hsz (Heap.get?_push_size _ rfl) (I.hok.fresh hsz) (Step.refl R) hco
end
end Vi
/-! text Vc7 -/
set_option Elab.async false
set_option linter.all false
set_option maxRecDepth 100000
set_option maxHeartbeats 1000000
/-! Vc, part 7: the reading of such a comprehension; trees that are the same. -/
namespace Vi
open PySem PySem.Spec PyProof.Rows L2

/-- a reading that knows of old facts -/
def tDa (W : Wd) (E : XK) (Fa : Hp) (μa : List Addr) (m : M D) : TE := fun σ H Q => ∃ F μ S, Rel W F μ S σ H ∧ Sub Fa F ∧ Pre μa μ ∧ Post W E (RD W) m F μ S σ H Q
section
variable {α β : Type} {W : Wd} {E E' : XK} {F F' : Hp} {μ μ' : List Addr} {S S' : St} {σ σ' : L2.St} {H H' H0 : Hp} {vs : List Nat}
theorem tLc_ofS {Fa : Hp} {μa : List Addr} {ws : List Nat} {mi : M (List D)} {g : D → M Unit} {tt : M Bool} {te : M D} {Q : VK} (hw : ∀ i ∈ ws, i ∈ vs) (R : Rel W F μ S σ H) (hFa : Sub Fa F) (hμa : Pre μa μ) (p : Post W E (OR W) (mLc vs mi g tt te) F μ S σ H Q) : tLc (tI W E mi) (tGt W ws g) (tT W E' tt) (tDa W E' Fa μa te) vs σ H Q := by
  refine ⟨F, μ, S, R, ?_⟩
  unfold Post mLc Vi.bind at p
  unfold Post
  cases e1 : mi S with
  | fail => rw [e1] at p; exact p
  | exc c d S1 => rw [e1] at p; exact p
  | ok items S1 =>
  rw [e1] at p
  dsimp only at p
  intro F1 μ1 J H1 t1 n1 hJ D hD
  cases e2 : lcGo vs g tt te items [] (S1.mask vs) with
  | fail => rw [e2] at p; exact p.elim
  | exc c d S2 => rw [e2] at p; exact p.elim
  | ok ds S2 =>
  rw [e2] at p
  dsimp only at p
  refine ⟨fun i m H' => m = items.length - i ∧ i ≤ items.length ∧ ∃ F2 μ2 S' acc, LcI W F1 μ1 S1 σ H1 vs D (fun acc S' => lcGo vs g tt te (items.drop i) acc S' = .ok ds S2) H' F2 μ2 S' acc, ⟨items.length, by simp, Nat.zero_le _, F1, μ1, S1.mask vs, [], ?_, mask_mask _ _, Ne.refl _, ?_, by simpa using e2⟩, ?_⟩
  · exact Step.new t1.rel.mask hD
  · have R1 := t1.rel.mask (vs := vs)
    exact ⟨D, rfl, ⟨[], upd_same, .nil⟩, fun z => R1.muTrk z hD, R1.noF hD, fun z => R1.ownTrk z hD, hD⟩
  rintro i m H' ⟨rfl, hi, F2, μ2, S', acc, I⟩
  obtain ⟨hgo, hst⟩ := hJ F2 μ2 S' (wipe σ vs) H' I.t.sub I.t.pre I.t.rel i
  by_cases hlt : i < items.length
  · obtain ⟨hg, hy⟩ := hgo hlt
    have hd : items.drop i = items[i] :: items.drop (i + 1) := List.drop_eq_getElem_cons hlt
    have g0 := I.g
    rw [hd] at g0
    obtain ⟨r, Sm, q1, q2⟩ := bind_okE g0
    by_cases hz : acc.length < line
    case neg => rw [if_neg hz] at q2; cases q2
    rw [if_pos hz] at q2
    obtain ⟨_, Sg, qg, q3⟩ := bind_okE q1
    obtain ⟨b, St, qt, q4⟩ := bind_okE q3
    obtain ⟨r', Se, qe, q5⟩ := bind_okE q4
    cases q5
    refine .inr ⟨hg, fun H'' => i + 1 ≤ items.length ∧ ∃ F2 μ2 S' acc, LcI W F1 μ1 S1 σ H1 vs D (fun acc S' => lcGo vs g tt te (items.drop (i + 1)) acc S' = .ok ds S2) H'' F2 μ2 S' acc, fun H'' z => ⟨items.length - (i + 1), by omega, rfl, z⟩, fun x H3 y => ?_⟩
    obtain ⟨d, F3, ed, ty, rd⟩ := hy x H3 y
    rw [List.getElem?_eq_getElem hlt] at ed
    cases ed
    refine ⟨F3, μ2, S', _, ty.rel, rd, ?_⟩
    unfold PostG
    rw [qg]
    intro F4 μ4 σ4 H4 tg ng og
    refine ⟨og.wipe hw, ?_⟩
    have hwσ : wipe σ4 vs = wipe σ vs := og.wipe hw
    refine ⟨F4, μ4, Sg, tg.rel, Post.okE qt fun F5 μ5 b' H5 tt_ nt rb => ?_⟩
    cases rb
    have T5 := ((I.t.trans ty).trans tg).trans tt_
    have w5 := ((I.w.stepW ty).stepW tg).stepW tt_
    cases b with
    | false =>
      simp only [Bool.false_eq_true, if_false] at qe ⊢
      cases qe
      have T6 := T5.mask (vs := vs)
      rw [hwσ] at T6
      refine ⟨hlt, F5, μ5, St.mask vs, acc, T6, mask_mask _ _, ?_, ?_, by simpa using q2⟩
      · have := ((I.n.trans ng).trans nt).mask (vs := vs)
        rwa [mask_mask] at this
      · obtain ⟨a, h1, h2, h3, h4, h5, h6⟩ := w5
        cases h1
        exact ⟨D, rfl, h2, h3, h4, fun z => h5 (by rw [← hwσ] at z; exact (Own.unmask z).1), h6⟩
    | true =>
      simp only [if_true] at qe ⊢
      obtain ⟨d, Sd, qd, qr⟩ := bind_okE qe
      cases qr
      refine ⟨F5, μ5, St, T5.rel, hFa.trans (t1.sub.trans T5.sub), (fun j b e => T5.pre j b (t1.pre j b (hμa j b e))), Post.okE qd fun F6 μ6 yv H6 td nd rdd => ?_⟩
      have T6 := T5.trans td
      obtain ⟨a, h1, ⟨vs6, h2, h2'⟩, h3, h4, h5, h6⟩ := w5.stepW td
      cases h1
      refine ⟨vs6, h2, by rw [← h2'.length]; exact hz, hlt, F6, μ6, Se.mask vs, acc ++ [d], ?_, mask_mask _ _, ?_, ?_, q2⟩
      · have := ((T6.upW h3 h4 h5 h6 (fun ps z => by rw [h2] at z; cases z) (o := .lst (vs6 ++ [yv]))).mask (vs := vs))
        rwa [hwσ] at this
      · have := (((I.n.trans ng).trans nt).trans nd).mask (vs := vs)
        rwa [mask_mask] at this
      · exact ⟨D, rfl, ⟨_, upd_same, h2'.append (.cons rdd .nil)⟩, h3, h4, fun z => h5 (by rw [← hwσ] at z; exact (Own.unmask z).1), h6⟩
  · have ei : i = items.length := by omega
    refine .inl ⟨hst (by omega), ?_⟩
    have g0 := I.g
    rw [ei, List.drop_length] at g0
    cases g0
    have hl : S1.σ.length = S2.σ.length := by rw [t1.rel.len, ← wipe_length σ vs]; exact I.t.rel.len.symm
    have tb := Step.unmask t1.rel I.t I.m
    refine p F2 μ2 (.ref D) H' (t1.trans tb) (n1.trans (Ne.back hl I.n)) ?_
    obtain ⟨a, h1, h2, h3, h4, h5, h6⟩ := I.w
    cases h1
    refine ⟨D, rfl, h2, h3, h4, fun z => ?_, t1.trk _ hD⟩
    rcases tb.own D z with z | z
    · exact t1.rel.ownTrk z hD
    · obtain ⟨vs', h2, _⟩ := h2
      have R1 := t1.rel
      obtain ⟨j, e, k1, k2⟩ := (‹Own (S2.back vs S1) σ D› : Own _ _ _)
      have k1 : (Vi.unmask vs 0 S1.σ S2.σ)[j]? = some (.o e) := k1
      rw [unmask_get vs _ _ _ _ hl, Nat.zero_add] at k1
      by_cases hc : vs.contains j = true
      · rw [if_pos hc] at k1; exact R1.ownTrk ⟨j, e, k1, k2⟩ hD
      · rw [if_neg hc] at k1; exact h5 ⟨j, e, k1, (wipe_keep (by simpa using hc)).trans k2⟩
end
mutual
def sameD : D → D → Bool
  | .non, .non => true
  | .bl a, .bl b => a == b
  | .int a, .int b => decide (a = b)
  | .str a, .str b => decide (a = b)
  | .tup a, .tup b => sameDs a b
  | .lst a, .lst b => sameDs a b
  | _, _ => false
def sameDs : List D → List D → Bool
  | [], [] => true
  | a :: as, b :: bs => sameD a b && sameDs as bs
  | _, _ => false
end
mutual
theorem sameD_ok : ∀ {a b : D}, sameD a b = true → a = b
  | a, b, h => by
    cases a with
    | non => cases b <;> simp_all [sameD]
    | bl x => cases b <;> simp_all [sameD]
    | int x => cases b <;> simp_all [sameD]
    | str x => cases b <;> simp_all [sameD]
    | tup x =>
      cases b with
      | tup y => rw [sameDs_ok (a := x) (b := y) (by simpa [sameD] using h)]
      | _ => simp [sameD] at h
    | lst x =>
      cases b with
      | lst y => rw [sameDs_ok (a := x) (b := y) (by simpa [sameD] using h)]
      | _ => simp [sameD] at h
    | _ => simp [sameD] at h
theorem sameDs_ok : ∀ {a b : List D}, sameDs a b = true → a = b
  | [], [], _ => rfl
  | x :: xs, y :: ys, h => by
    simp only [sameDs, Bool.and_eq_true] at h
    rw [sameD_ok h.1, sameDs_ok h.2]
  | [], _ :: _, h => by simp [sameDs] at h
  | _ :: _, [], h => by simp [sameDs] at h
end
/-- a frame that holds nothing more -/
def blank (S : St) : St := ⟨List.replicate S.σ.length .e, S.h⟩
theorem blank_own {S : St} {σ : L2.St} {a : Addr} : ¬ Own (blank S) σ a := fun ⟨i, d, e, _⟩ => by
  have := List.mem_of_getElem? e
  simp [blank] at this
section
variable {W : Wd} {F F' : Hp} {μ μ' : List Addr} {S S' : St} {σ σ' : L2.St} {H H' : Hp}
theorem Rel.blank (R : Rel W F μ S σ H) : Rel W F μ (blank S) σ H :=
  ⟨by unfold Vi.blank; rw [List.length_replicate]; exact R.len, R.sub, fun i d e => absurd (List.mem_of_getElem? e) (by simp [Vi.blank]), fun i d e => absurd (List.mem_of_getElem? e) (by simp [Vi.blank]), fun i j d e a h1 => absurd (List.mem_of_getElem? h1) (by simp [Vi.blank]), R.hl, R.hp, R.inj, R.tab⟩
theorem Step.blank (t : Step W F μ S σ H F' μ' S' σ' H') : Step W F μ S σ H F' μ' (blank S') σ' H' :=
  ⟨t.sub, t.pre, t.rel.blank, t.keep, t.trk, fun a z => absurd z blank_own, t.fr, t.fnew⟩
/-- a slot of which nothing is said -/
theorem Rel.setE (R : Rel W F μ S σ H) {j : Nat} {x : Option V} (hj : S.σ[j]? = some .e) : Rel W F μ S (σ.set j x) H := by
  have ne : ∀ {i : Nat} {y : Sl}, S.σ[i]? = some y → y ≠ .e → i ≠ j := fun h n z => by rw [z, hj] at h; exact n (Option.some.inj h).symm
  have get : ∀ {i : Nat}, i ≠ j → (σ.set j x)[i]? = σ[i]? := fun h => List.getElem?_set_ne (Ne.symm h)
  refine ⟨by rw [List.length_set]; exact R.len, R.sub, fun i d h => ?_, fun i d h => ?_, fun i k d e a h1 h2 h3 h4 => ?_, R.hl, R.hp, R.inj, R.tab⟩
  · rw [get (ne h fun z => by cases z)]; exact R.sl i d h
  · rw [get (ne h fun z => by cases z)]; exact R.ow i d h
  · rw [get (ne h1 fun z => by cases z)] at h3
    rw [get (ne h2 fun z => by cases z)] at h4
    exact R.apart i k d e a h1 h2 h3 h4
theorem Step.setE (t : Step W F μ S σ H F' μ' S' σ' H') {j : Nat} {x : Option V} (hj : S'.σ[j]? = some .e) : Step W F μ S σ H F' μ' S' (σ'.set j x) H' :=
  ⟨t.sub, t.pre, t.rel.setE hj, t.keep, t.trk, fun a ⟨i, d, h1, h2⟩ => by
    have hi : i ≠ j := fun z => by rw [z, hj] at h1; cases h1
    rw [List.getElem?_set_ne (Ne.symm hi)] at h2
    exact t.own a ⟨i, d, h1, h2⟩, t.fr, t.fnew⟩
end
end Vi
/-! text Vc8 -/
set_option Elab.async false
set_option linter.all false
set_option maxRecDepth 100000
set_option maxHeartbeats 2000000
/-! Vc, part 8: a list of lambdas and what is due of each. -/
namespace Vi
open PySem PySem.Spec PyProof.Rows L2 NdefX LamX

/-- the lambda L stands at f -/
def LkOk (q : Str) (cells : List (Str × Addr)) (F : Hp) (L : LamT) (f : Addr) : Prop := ∃ c' pm ctv, F c' = some (CodeO c' q) ∧ F f = some (LamO f q L (cloFrom cells L.scope.names []) pm c' ctv)
theorem LkOk.mono {q : Str} {cells : List (Str × Addr)} {F F' : Hp} {L : LamT} {f : Addr} (h : LkOk q cells F L f) (hs : Sub F F') : LkOk q cells F' L f := let ⟨c', pm, ctv, h1, h2⟩ := h; ⟨c', pm, ctv, hs _ _ h1, hs _ _ h2⟩
inductive LkAll (q : Str) (cells : List (Str × Addr)) (F : Hp) : List LamT → List Addr → Prop
  | nil : LkAll q cells F [] []
  | cons {L : LamT} {f : Addr} {Ls : List LamT} {fs : List Addr} : LkOk q cells F L f → LkAll q cells F Ls fs → LkAll q cells F (L :: Ls) (f :: fs)
theorem LkAll.mono {q : Str} {cells : List (Str × Addr)} {F F' : Hp} (hs : Sub F F') : ∀ {Ls : List LamT} {fs : List Addr}, LkAll q cells F Ls fs → LkAll q cells F' Ls fs
  | _, _, .nil => .nil
  | _, _, .cons h t => .cons (h.mono hs) (t.mono hs)
theorem LkAll.snoc {q : Str} {cells : List (Str × Addr)} {F : Hp} {L : LamT} {f : Addr} (h : LkOk q cells F L f) : ∀ {Ls : List LamT} {fs : List Addr}, LkAll q cells F Ls fs → LkAll q cells F (Ls ++ [L]) (fs ++ [f])
  | _, _, .nil => .cons h .nil
  | _, _, .cons a t => .cons a (t.snoc h)
theorem LkAll.len {q : Str} {cells : List (Str × Addr)} {F : Hp} : ∀ {Ls : List LamT} {fs : List Addr}, LkAll q cells F Ls fs → Ls.length = fs.length
  | _, _, .nil => rfl
  | _, _, .cons _ t => by simp [t.len]
theorem LkAll.mem {q : Str} {cells : List (Str × Addr)} {F : Hp} : ∀ {Ls : List LamT} {fs : List Addr}, LkAll q cells F Ls fs → ∀ f ∈ fs, ∃ u, F f = some u
  | _, _, .nil, f, h => nomatch h
  | _, _, .cons ⟨_, _, _, _, e⟩ t, f, h => by
    rcases List.mem_cons.mp h with rfl | h
    · exact ⟨_, e⟩
    · exact t.mem f h
def lkItems : List Addr → List D → List D
  | f :: fs, d :: ds => .tup [.obj f, d] :: lkItems fs ds
  | _, _ => []
theorem lkItems_snoc {f : Addr} {d : D} : ∀ {fs : List Addr} {ds : List D}, ds.length = fs.length → lkItems (fs ++ [f]) (ds ++ [d]) = lkItems fs ds ++ [.tup [.obj f, d]]
  | [], [], _ => rfl
  | f :: fs, d :: ds, h => by
    show D.tup [.obj f, d] :: lkItems (fs ++ _) (ds ++ _) = _
    rw [lkItems_snoc (by simpa using h)]; rfl
  | [], _ :: _, h => by simp at h
  | _ :: _, [], h => by simp at h
theorem lkItems_len : ∀ {fs : List Addr} {ds : List D}, ds.length = fs.length → (lkItems fs ds).length = fs.length
  | [], [], _ => rfl
  | f :: fs, d :: ds, h => by
    show (lkItems fs ds).length + 1 = _
    rw [lkItems_len (by simpa using h)]; rfl
  | [], _ :: _, h => by simp at h
  | _ :: _, [], h => by simp at h
def dues : List (M O) → M (List D)
  | [] => mNil
  | m :: ms => mCons m (dues ms)
/-- the maker's code object, its table -/
structure MkF (X : Cx) (C : Cc) (c P : Addr) : Prop where
  TB : TabB X.base X.mg c P
  code : X.env.code = .ref c
  hm : (P, X.env.qual ++ "<lambda>") ∈ C.T
  hu : ∀ p ∈ C.T, p.1 = P → p.2 = X.env.qual ++ "<lambda>"
structure LamW (X : Cx) (L : LamT) : Prop where
  df : defaultsOf L.params X.env = ([], [])
  fr : ∀ y ∈ L.scope.names, y.2 = .free → X.env.scope.names.lookup y.1 = some .cell ∨ X.env.scope.names.lookup y.1 = some .free
section
variable {W : Wd} {F F' : Hp} {μ μ' : List Addr} {S S' : St} {σ σ' : L2.St} {H H' : Hp}
theorem Step.wipe1 (t : Step W F μ S σ H F' μ' S' σ' H') {j : Nat} {x : Option V} : Step W F μ S σ H F' μ' { S' with σ := S'.σ.set j .e } (σ'.set j x) H' := by
  have R := t.rel
  have g : ∀ {i : Nat} {y : Sl}, (S'.σ.set j Sl.e)[i]? = some y → y ≠ .e → i ≠ j ∧ S'.σ[i]? = some y := fun h n => by
    rcases get_set h with ⟨_, z, _⟩ | z
    · exact absurd z n
    · exact z
  have get : ∀ {i : Nat}, i ≠ j → (σ'.set j x)[i]? = σ'[i]? := fun h => List.getElem?_set_ne (Ne.symm h)
  refine ⟨t.sub, t.pre, ⟨by simpa using R.len, R.sub, fun i d h => ?_, fun i d h => ?_, fun i k d e a h1 h2 h3 h4 => ?_, R.hl, R.hp, R.inj, R.tab⟩, t.keep, t.trk, fun a ⟨i, d, h1, h2⟩ => ?_, t.fr, t.fnew⟩
  · obtain ⟨n, h⟩ := g h (fun z => by cases z)
    rw [get n]; exact R.sl i d h
  · obtain ⟨n, h⟩ := g h (fun z => by cases z)
    rw [get n]; exact R.ow i d h
  · obtain ⟨n1, h1⟩ := g h1 (fun z => by cases z)
    obtain ⟨n2, h2⟩ := g h2 (fun z => by cases z)
    rw [get n1] at h3
    rw [get n2] at h4
    exact R.apart i k d e a h1 h2 h3 h4
  · obtain ⟨n, h1⟩ := g h1 (fun z => by cases z)
    rw [get n] at h2
    exact t.own a ⟨i, d, h1, h2⟩
end
section
variable {X : Cx} {C : Cc} {E : XK} {c P : Addr} {L : LamT} {m : M O} {e : Expr} {lp tp : Pos} {k : Nat}
def tPair (X : Cx) (C : Cc) (L : LamT) (m : M O) : TE := fun σ H Q => ∃ F μ S d S', Rel (wd X C) F μ S σ H ∧ Vi.bind m esc S = .ok d S' ∧ ∀ (f : Addr) (F' : Hp) (μ' : List Addr) (t : Addr) (H' : Hp), Step (wd X C) F μ S σ H F' μ' S' σ H' → H f = none →
  LkOk (X.env.qual ++ "<lambda>") X.env.cells F' L f → DR (wd X C) F' μ' (.tup [.obj f, d]) (.ref t) → Q (.ref t) H'
theorem pe_pair (M : MkF X C c P) (w : LamW X L) (he : PE X e (tE (wd X C) E m)) (hs : starEach [.Lambda L.params L.body L.scope lp, e] X.env = (false, eval (.Lambda L.params L.body L.scope lp) X.env) :: starEach [e] X.env) (hs2 : starEach [e] X.env = (false, eval e X.env) :: starEach [] X.env) :
    PE X (.Tuple [.Lambda L.params L.body L.scope lp, e] k tp) (tPair X C L m) :=
  peW (pe_tup (pa_cons (pe_lamF (C := C) (pos := lp) M.TB M.code M.hm M.hu w.df w.fr) (pa_cons (pe_esc he) pa_nil hs2) hs)) fun σ H Q ⟨F, μ, S, d, S', R, e1, h⟩ => by
    refine ⟨F, μ, S, R, fun f c' pm ctv F1 H1 t1 hf hc hl => ⟨F1, μ, S, t1.rel, Post.okE e1 fun F2 μ2 v2 H2 t2 n2 r2 => ?_⟩⟩
    refine ⟨by show 2 ≤ sizeLine; rw [sizeLine_eq]; omega, fun p hp => ?_⟩
    have t3 := (t1.trans t2).newFt (p := p) (o := .tup [.ref f, v2]) hp
    have hs : Sub F2 (upd F2 p (.tup [.ref f, v2])) := Sub.upd (t2.rel.noF hp)
    exact h f _ μ2 p _ t3 hf ⟨c', pm, ctv, hs _ _ (t2.sub _ _ hc), hs _ _ (t2.sub _ _ hl)⟩ (.tup (.inl (.inl upd_same)) (.cons (.obj f) (.cons (r2.mono hs fun _ _ z => z) .nil)))
/-- where the looks stand, when some are made -/
def tLk (X : Cx) (C : Cc) (jl : Nat) (done : List LamT) (todo : List (M O)) (chk : List D → St → Bool) : TS := fun D σ H => ∃ F0 μ0 S0 σ0 H0 F μ S fs ds al rest S1,
  Step (wd X C) F0 μ0 S0 σ0 H0 F μ S σ H ∧ σ[jl]? = some (some (.ref al)) ∧ OR (wd X C) H0 F μ S σ H (.w (.lst (lkItems fs ds))) (.ref al) ∧ ds.length = fs.length ∧ LkAll (X.env.qual ++ "<lambda>") X.env.cells F done fs ∧ fs.Nodup ∧
  dues todo S = .ok rest S1 ∧ chk (ds ++ rest) S1 = true ∧ ∀ F' μ' σ' H', Step (wd X C) F0 μ0 S0 σ0 H0 F' μ' (blank S1) σ' H' → D.rt (.bl true) H'
variable {jl : Nat} {done : List LamT} {todo : List (M O)} {chk : List D → St → Bool} {p1 ap cp pos : Pos} {rest : List Stmt}
theorem pss_look (M : MkF X C c P) (w : LamW X L) (he : PE X e (tE (wd X C) E m)) (hs2 : starEach [e] X.env = (false, eval e X.env) :: starEach [] X.env) (hN : X.N[jl]? = some ("looks" : Str)) (hv : Vis X.env.scope ("looks" : Str)) (hd : done.length < 1000) (hline : (ap.endLine == cp.line) = true)
    (hr : PSs X rest (tLk X C jl (done ++ [L]) todo chk)) :
    PSs X (.Expr (.Call (.Attribute (.Name "looks" p1) "append" ap) [.Tuple [.Lambda L.params L.body L.scope lp, e] k tp] [] cp) pos :: rest) (tLk X C jl done (m :: todo) chk) := by
  refine pssW' (pss_cons (ps_expr (pe_mG (T := "list") (ty := tyK X C .l) (r := rAppend) (tyOkK (C := C) (kd := .l)) PySem.F.plainAttrs_list PySem.F.slot_list_append PySem.F.type_list_append (fun pins s σ H x xs v us Q I rx rv h => mt_append pins s σ H x xs v us Q I rx rv h) (pe_var (i := jl) hN hv)
    (pa_cons (pe_pair (lp := lp) (tp := tp) (k := k) M w he rfl hs2) pa_nil rfl) rfl rfl hline rfl rfl) rfl) hr) fun D σ H ⟨F0, μ0, S0, σ0, H0, F, μ, S, fs, ds, al, rest, S1, T, hσ, wo, hl, LA, nd, hdu, hchk, fin⟩ => ?_
  obtain ⟨d, S', e1, e2⟩ := bind_okE (show Vi.bind (Vi.bind m esc) (fun d => Vi.bind (dues todo) fun ds => ret (d :: ds)) S = .ok rest S1 from hdu)
  obtain ⟨rest', S2, e3, e4⟩ := bind_okE e2
  cases e4
  obtain ⟨a', ea, ⟨xs0, hx0, rx0⟩, w3, w4, w5, w6⟩ := id wo
  cases ea
  refine ⟨.ref al, hσ, ⟨F, μ, .lst (lkItems fs ds), T.rel.sub, .inr ⟨al, rfl, ⟨xs0, hx0, rx0⟩⟩, rfl⟩, F, μ, S, d, S', T.rel, e1, fun f F' μ' t H' st hf lk dr => ?_⟩
  obtain ⟨a', ea, ⟨xs, hx, rx⟩, v3, v4, v5, v6⟩ := wo.stepW st
  cases ea
  have nf : f ∉ fs := fun hm => by
    obtain ⟨u, hu⟩ := LA.mem f hm
    have := T.rel.sub _ _ hu
    rw [hf] at this; cases this
  have T' := (T.trans st).upW v3 v4 v5 v6 (fun ps z => by rw [hx] at z; cases z) (o := .lst (xs ++ [.ref t]))
  refine ⟨al, xs, .ref t, rfl, rfl, hx, ?_, ?_⟩
  · rw [← rx.length, lkItems_len hl, ← LA.len, sizeLine_eq]; omega
  · refine ⟨F0, μ0, S0, σ0, H0, F', μ', S', fs ++ [f], ds ++ [d], al, rest', S1, T', hσ, ⟨al, rfl, ⟨_, upd_same, ?_⟩, v3, v4, v5, v6⟩, by simp [hl], (LA.mono st.sub).snoc lk, ?_, e3, by simpa using hchk, fin⟩
    · rw [lkItems_snoc hl]; exact rx.append (.cons dr .nil)
    · rw [List.nodup_append]
      exact ⟨nd, by simp, fun x hx y hy => by rw [List.mem_singleton.mp hy]; exact fun z => nf (z ▸ hx)⟩
/-- the first look, the list is made -/
def tLk0 (X : Cx) (C : Cc) (jl : Nat) (m : M O) (todo : List (M O)) (chk : List D → St → Bool) : TS := fun D σ H => ∃ F μ S d S' rest S1, Rel (wd X C) F μ S σ H ∧ jl < S.σ.length ∧ Vi.bind m esc S = .ok d S' ∧
  dues todo { S' with σ := S'.σ.set jl .e } = .ok rest S1 ∧ chk (d :: rest) S1 = true ∧ ∀ F' μ' σ' H', Step (wd X C) F μ S σ H F' μ' (blank S1) σ' H' → D.rt (.bl true) H'
theorem pss_look0 {px pl : Pos} (M : MkF X C c P) (w : LamW X L) (he : PE X e (tE (wd X C) E m)) (hs2 : starEach [e] X.env = (false, eval e X.env) :: starEach [] X.env) (hNd : X.N.Nodup) (hN : X.N[jl]? = some ("looks" : Str)) (hx : Loc X.env.scope ("looks" : Str)) (hf : X.fn ("looks" : Str) = true ∨ X.env.scope.names.lookup ("looks" : Str) = some .local)
    (hr : PSs X rest (tLk X C jl [L] todo chk)) :
    PSs X (.Assign [.Name "looks" px] (.List [.Tuple [.Lambda L.params L.body L.scope lp, e] k tp] pl) pos :: rest) (tLk0 X C jl m todo chk) := by
  refine pssW' (pss_cons (ps_set (i := jl) (pos' := px) (pos := pos) hNd hN hx (pe_lst (pos := pl) (pa_cons (pe_pair (lp := lp) (tp := tp) (k := k) M w he rfl hs2) pa_nil rfl)) rfl hf) hr) fun D σ H ⟨F, μ, S, d, S', rest, S1, R, hj0, e1, e2, hchk, fin⟩ => ?_
  have hj : jl < σ.length := by rw [← R.len]; exact hj0
  refine ⟨F, μ, S, d, S', R, e1, fun f F' μ' t H' st hf lk dr => ⟨by show 1 ≤ sizeLine; rw [sizeLine_eq]; omega, fun al ha => ?_⟩⟩
  have R1 := st.rel
  have T := (st.trans (Step.new R1 (o := .lst [.ref t]) ha)).wipe1 (j := jl) (x := some (.ref al))
  refine ⟨F, μ, S, σ, H, F', μ', { S' with σ := S'.σ.set jl .e }, [f], [d], al, rest, S1, T, by rw [List.getElem?_set_self hj], ?_, rfl, .cons lk .nil, by simp, e2, hchk, fin⟩
  refine ⟨al, rfl, ⟨_, upd_same, .cons dr .nil⟩, fun z => R1.muTrk z ha, R1.noF ha, fun ⟨i, d', h1, h2⟩ => ?_, st.trk _ ha⟩
  have hi : i ≠ jl := fun z => by
    rcases get_set h1 with ⟨_, z, _⟩ | ⟨z2, _⟩
    · cases z
    · exact z2 z
  have h1' : S'.σ[i]? = some (.o d') := by
    have q : (S'.σ.set jl Sl.e)[i]? = some (.o d') := h1
    rwa [List.getElem?_set_ne (Ne.symm hi)] at q
  rw [List.getElem?_set_ne (Ne.symm hi)] at h2
  exact R1.ownTrk ⟨i, d', h1', h2⟩ ha
end
end Vi
/-! text Vc9 -/
set_option Elab.async false
set_option linter.all false
set_option maxRecDepth 100000
set_option maxHeartbeats 2000000
/-! Vc, part 9: each lambda is tried. -/
namespace Vi
open PySem PySem.Spec PyProof.Rows L2 NdefX LamX

/-- _law_is_raised as a whole -/
structure IsrB (P : Program) (w : World) (K : PySem.W.Frag) (mg : Str → Option Value) (base : Heap) (C : Cc) (n k : Nat) (xI : Str) (fI : Addr) (nr : Nat) (ms : MS) : Prop where
  run : ∀ {A : Around} {outer : List Env} {s : Shared} {H F : Hp} {μ : List Addr} {Q : VK} {E : XK} {q : Str} {L : LamT} {fr : List Str} {vs : List V} {f c' : Addr} {cds h : List D} {m : M O} {r : Rz} {due : D} {u : Value} {v : V}, LamB P w K mg base C k q L fr m → LamAt q L fr vs s H F f c' → RoomG (k + 3) A → Env0 P w K mg base A outer s H →
    Rel ⟨P, w, K, C⟩ F μ (S0 h) [] H → DRs ⟨P, w, K, C⟩ F μ cds vs → RelV v u → DR ⟨P, w, K, C⟩ F μ due v → rzOf m fr.length cds h (fun h' => sameDs h' h) = some r → r.okN n = true → isrOk ms nr due r h (fun h' => sameDs h' h) = true →
    (∀ F' μ' H', Step ⟨P, w, K, C⟩ F μ (S0 h) [] H F' μ' (S0 h) [] H' → Q (.bl true) H') → codeAny (model P w) A (.call (.ref fI) ⟨[.ref f, u], []⟩) (CR (L2.CX P w) outer P w H s Q E) s
  mg : mg xI = some (.ref fI)
  kp : PySem.W.keepIn K (.ref fI) = true
  nm : (xI == ("__debug__" : Str)) = false
/-- a lambda's text, the names that it takes from its maker, their slots, its meaning -/
structure LkT where
  L : LamT
  fr : List Str
  js : List Nat
  m : M O
/-- does the lambda do as is due? -/
def lkCheck (n : Nat) (ms : MS) (nr : Nat) (T : LkT) (cds : List D) (due : D) (h : List D) : Bool := match rzOf T.m T.fr.length cds h (fun h' => sameDs h' h) with
  | some r => r.okN n && isrOk ms nr due r h (fun h' => sameDs h' h)
  | none => false
def kElt (ca : Addr → D → List D → Bool) : List D → M D
  | [.obj a, due] => fun S => if ca a due S.h then .ok (.bl true) S else .fail
  | _ => fail
section
variable {X : Cx} {C : Cc} {pins : List (Addr × Obj)} {σ : L2.St} {s : Shared} {H Fa : Hp} {μa : List Addr} {n k : Nat} {xI : Str} {fI : Addr} {nr : Nat} {ms : MS} {margs : M (List D)} {ca : Addr → D → List D → Bool} {es : List Expr} {e : Expr} {p1 pos : Pos}
theorem pe_elt (B : IsrB X.prog X.w X.K X.mg X.base C n k xI fI nr ms) (I0 : L2.Inv X pins σ H s) (hr : RoomG (k + 3) X.A) {fp : List Addr} (hfp : ∀ b ∈ fp, FpOk X pins H b) {scope : Scope} {ce : Env} (hg : Gl (X.blk s H scope ce fp) xI)
    (hargs : PA (X.blk s H scope ce fp) (e :: es) (tDs (wd X C) XF margs)) (he : starEach (e :: es) ce = (false, eval e ce) :: starEach es ce) (hpl : (backTo pos (starEach es ce)).any (·.1) = false)
    (hca : ∀ a due h, ca a due h = true → ∃ (T : LkT) (cds : List D) (vs : List V), LkOk (X.env.qual ++ "<lambda>") X.env.cells Fa T.L a ∧ DRs (wd X C) Fa μa cds vs ∧ T.js.map (slotAt σ) = vs.map some ∧ Caps X (cloFrom X.env.cells T.L.scope.names []) T.fr T.js ∧ LamB X.prog X.w X.K X.mg X.base C k (X.env.qual ++ "<lambda>") T.L T.fr T.m ∧ lkCheck n ms nr T cds due h = true) :
    PE (X.blk s H scope ce fp) (.Call (.Name xI p1) (e :: es) [] pos) (tDa (wd X C) XF Fa μa (Vi.bind margs (kElt ca))) := by
  refine ⟨fun pins1 s1 σ1 H1 Q1 I1 ⟨F, μ, S, R, hFa, hμa, p⟩ => ?_⟩
  refine wpAny_Call_Name_kw (ld_glob I1 hg B.mg ?_ B.nm)
  refine PySem.W.callWith_K (h₀ := X.base) I1.ok.mod.kin B.kp (thn (hargs.run pos pins1 s1 σ1 H1 _ I1 ⟨F, μ, S, R, Post.bind p⟩) fun us s2 ⟨vs', H2, I2, rv, ds, F2, μ2, S2, r2, t2, n2, p2⟩ => ⟨I2.kIn, ?_⟩) he hpl
  unfold kElt at p2
  split at p2
  · rename_i a due
    by_cases hc : ca a due S2.h = true
    case neg => unfold Post at p2; dsimp only at p2; rw [if_neg hc] at p2; exact p2.elim
    obtain ⟨T, cds, vs, lk, rd, hv, caps, LB, hck⟩ := hca _ _ _ hc
    cases r2 with
    | cons ra rt => cases rt with
      | cons rb rt => cases rt with
        | nil =>
          cases ra
          obtain ⟨u1, u2, rfl, ru1, ru2⟩ := vals2 rv
          obtain rfl : u1 = Value.ref a := ru1
          obtain ⟨c', pm, ctv, hc', hl'⟩ := lk
          have s2F : Sub Fa F2 := hFa.trans t2.sub
          have pr2 : Pre μa μ2 := fun j b e => t2.pre j b (hμa j b e)
          have C0 := cells_of I0 caps
          rw [hv] at C0
          have un : Un (frs X.stack) fp H H2 s.heap s2.heap := I2.base
          have C2 := cells_un C0 un fun y c e hm => (hfp c hm).2.2.2.2.1 y c (caps.sub y c e) rfl
          have Z : LamAt (X.env.qual ++ "<lambda>") T.L T.fr vs s2 H2 F2 a c' := ⟨⟨_, pm, ctv, s2F _ _ hl', C2⟩, s2F _ _ hc'⟩
          unfold lkCheck at hck
          split at hck
          · rename_i r hz
            rw [Bool.and_eq_true] at hck
            have rc := B.run (A := X.A) (Q := Q1) (E := fun _ _ _ => False) LB Z hr I2.env0 (Rel.bare t2.rel) (DRs.mono s2F pr2 rd) ru2 rb hz hck.1 hck.2 (fun F' μ' H' t => by
              unfold Post at p2
              dsimp only at p2; rw [if_pos hc] at p2
              exact p2 F' μ' (.bl true) H' (Step.frame t2.rel t) (Ne.refl _) (.bl true))
            show wpAny _ _ (call (.ref fI) [.ref a, u2]) _ _ _
            refine wpAny_call (codeAny_mono rc fun rr s' hq => ?_)
            cases rr with
            | error e => exact passes_call (LamX.takes0 (X := X.blk s H scope ce fp)) (fun _ _ _ _ h => h) pins1 σ1 H2 s2 e s' I2 hq
            | ok fl =>
              cases fl with
              | ret u => exact I2.after hq
              | next => exact False.elim hq
              | brk => exact False.elim hq
              | cont => exact False.elim hq
          · cases hck
  · exact p2.elim
end
end Vi
/-! text Vc10 -/
set_option Elab.async false
set_option linter.all false
set_option maxRecDepth 100000
set_option maxHeartbeats 2000000
/-! Vc, part 10: the looks one behind the other, in plain Lean. -/
namespace Vi
open PySem PySem.Spec PyProof.Rows L2

/-- (due + [None])[0] -/
def idx0 : D → Option D
  | .lst xs => if xs.length + 1 ≤ line then (xs ++ [.non])[0]? else none
  | _ => none
def capD (l : List Sl) : List Nat → Option (List D)
  | [] => some []
  | j :: js => (match l[j]? with
    | some (.s d) => (match capD l js with
      | some ds => some (d :: ds)
      | none => none)
    | _ => none)
/-- each look, told by its place -/
def chkLk (n : Nat) (ms : MS) (nr : Nat) : List LkT → List D → St → Bool
  | T :: Ts, d :: ds, S => (match capD S.σ T.js with
    | some cds => (match idx0 d with
      | some x => lkCheck n ms nr T cds x S.h
      | none => false)
    | none => false) && chkLk n ms nr Ts ds S
  | [], [], _ => true
  | _, _, _ => false
/-- each look, told by its address -/
def caLk (n : Nat) (ms : MS) (nr : Nat) (l : List Sl) : List Addr → List LkT → Addr → D → List D → Bool
  | f :: fs, T :: Ts, a, due, h => if f = a then (match capD l T.js with
      | some cds => lkCheck n ms nr T cds due h
      | none => false) else caLk n ms nr l fs Ts a due h
  | _, _, _, _, _ => false
theorem mask_set {S : St} {vs : List Nat} {i : Nat} {x : Sl} (hi : vs.contains i = true) : ({ S with σ := S.σ.set i x } : St).mask vs = S.mask vs := by
  have e : mask vs 0 (S.σ.set i x) = mask vs 0 S.σ := by
    apply List.ext_getElem?
    intro j
    rw [mask_get, mask_get, Nat.zero_add]
    by_cases hj : j = i
    · subst hj
      by_cases hl : j < S.σ.length
      · rw [List.getElem?_set_self hl, List.getElem?_eq_getElem hl]
        simp only [Option.map_some, hi, if_true]
      · rw [List.getElem?_eq_none (by simpa using hl), List.getElem?_eq_none (by simpa using hl)]
    · rw [List.getElem?_set_ne (Ne.symm hj)]
  show (⟨mask vs 0 (S.σ.set i x), S.h⟩ : St) = ⟨mask vs 0 S.σ, S.h⟩
  rw [e]
section
variable {n nr jlook jdue : Nat} {ms : MS} {g : D → M Unit} {margs : M (List D)} {ca : Addr → D → List D → Bool} {Sm : St}
theorem lcGo_ok (hg : ∀ (a : Addr) (d : D) (S : St), g (.tup [.obj a, d]) S = .ok () { S with σ := (S.σ.set jlook (.s (.obj a))).set jdue (.s d) })
    (hm : ∀ (S : St) (a : Addr) (d x : D), S.σ[jlook]? = some (.s (.obj a)) → S.σ[jdue]? = some (.s d) → idx0 d = some x → margs S = .ok [.obj a, x] S)
    (hne : jlook ≠ jdue) (h1 : jlook < Sm.σ.length) (h2 : jdue < Sm.σ.length) (hk : Sm.mask [jlook, jdue] = Sm) :
    ∀ (fs : List Addr) (ds acc : List D), ds.length = fs.length → (∀ (i : Nat) (f : Addr) (d : D), fs[i]? = some f → ds[i]? = some d → ∃ x, idx0 d = some x ∧ ca f x Sm.h = true) → acc.length + fs.length < line →
      lcGo [jlook, jdue] g (ret true) (Vi.bind margs (kElt ca)) (lkItems fs ds) acc Sm = .ok (acc ++ List.replicate fs.length (.bl true)) Sm
  | [], [], acc, _, _, _ => by
    show R.ok acc Sm = _
    simp
  | f :: fs, d :: ds, acc, hl, hc, hz => by
    obtain ⟨x, hx, hca⟩ := hc 0 f d rfl rfl
    have S1 : St := { Sm with σ := (Sm.σ.set jlook (.s (.obj f))).set jdue (.s d) }
    have e1 := hg f d Sm
    have m1 := hm { Sm with σ := (Sm.σ.set jlook (.s (.obj f))).set jdue (.s d) } f d x (by
      show ((Sm.σ.set jlook (.s (.obj f))).set jdue (.s d))[jlook]? = _
      rw [List.getElem?_set_ne (Ne.symm hne), List.getElem?_set_self h1]) (by
      show ((Sm.σ.set jlook (.s (.obj f))).set jdue (.s d))[jdue]? = _
      rw [List.getElem?_set_self (by simpa using h2)]) hx
    have t1 : Vi.bind margs (kElt ca) { Sm with σ := (Sm.σ.set jlook (.s (.obj f))).set jdue (.s d) } = .ok (.bl true) { Sm with σ := (Sm.σ.set jlook (.s (.obj f))).set jdue (.s d) } := by
      rw [bind_ok m1]
      show (if ca f x Sm.h then _ else _) = _
      rw [if_pos hca]
    have l1 : lc1 [jlook, jdue] g (ret true) (Vi.bind margs (kElt ca)) (.tup [.obj f, d]) Sm = .ok [.bl true] Sm := by
      unfold lc1
      rw [bind_ok e1]
      show (Vi.bind (Vi.bind (Vi.bind margs (kElt ca)) fun d => ret [d]) fun r s => R.ok r (s.mask [jlook, jdue])) _ = _
      rw [bind_ok (show Vi.bind (Vi.bind margs (kElt ca)) (fun d => ret [d]) { Sm with σ := (Sm.σ.set jlook (.s (.obj f))).set jdue (.s d) } = .ok [.bl true] _ by rw [bind_ok t1]; rfl)]
      show R.ok [D.bl true] _ = _
      have q := mask_set (S := { Sm with σ := Sm.σ.set jlook (.s (.obj f)) }) (vs := [jlook, jdue]) (i := jdue) (x := .s d) (by simp)
      have q2 := mask_set (S := Sm) (vs := [jlook, jdue]) (i := jlook) (x := .s (.obj f)) (by simp)
      rw [show ({ Sm with σ := (Sm.σ.set jlook (.s (.obj f))).set jdue (.s d) } : St).mask [jlook, jdue] = Sm from (q.trans q2).trans hk]
    show lcGo [jlook, jdue] g (ret true) (Vi.bind margs (kElt ca)) (.tup [.obj f, d] :: lkItems fs ds) acc Sm = _
    unfold lcGo
    rw [bind_ok l1]
    have hlt : acc.length < line := by simp at hz; omega
    rw [if_pos hlt]
    rw [lcGo_ok hg hm hne h1 h2 hk fs ds (acc ++ [D.bl true]) (by simpa using hl) (fun i f' d' a b => hc (i + 1) f' d' (by simpa using a) (by simpa using b)) (by simp at hz ⊢; omega)]
    simp [List.replicate_succ]
  | [], _ :: _, _, h, _, _ => by simp at h
  | _ :: _, [], _, h, _, _ => by simp at h
theorem ca_of_chk {l : List Sl} : ∀ {fs : List Addr} {Ts : List LkT} {ds : List D} {S : St}, S.σ = l → fs.Nodup → Ts.length = fs.length → chkLk n ms nr Ts ds S = true → ∀ (i : Nat) (f : Addr) (d : D), fs[i]? = some f → ds[i]? = some d → ∃ x, idx0 d = some x ∧ caLk n ms nr l fs Ts f x S.h = true
  | [], [], ds, S, _, _, _, _, i, f, d, h1, _ => by simp at h1
  | f0 :: fs, T :: Ts, [], S, _, _, _, h, i, f, d, _, h2 => by simp at h2
  | f0 :: fs, T :: Ts, d0 :: ds, S, hl, nd, hT, h, i, f, d, h1, h2 => by
    simp only [chkLk, Bool.and_eq_true] at h
    obtain ⟨nf, nd⟩ := List.nodup_cons.mp nd
    cases i with
    | zero =>
      cases h1
      cases h2
      obtain ⟨h3, _⟩ := h
      rw [hl] at h3
      unfold caLk
      simp only [if_true]
      cases e1 : capD l T.js with
      | none => rw [e1] at h3; cases h3
      | some cds =>
        rw [e1] at h3
        cases e2 : idx0 d0 with
        | none => rw [e2] at h3; cases h3
        | some x =>
          rw [e2] at h3
          exact ⟨x, rfl, h3⟩
    | succ i =>
      have h1 : fs[i]? = some f := by simpa using h1
      obtain ⟨x, hx, hc⟩ := ca_of_chk hl nd (by simpa using hT) h.2 i f d h1 (by simpa using h2)
      refine ⟨x, hx, ?_⟩
      unfold caLk
      rw [if_neg (fun z => nf (by rw [z]; exact List.mem_of_getElem? h1))]
      exact hc
  | [], _ :: _, _, _, _, _, h, _, _, _, _, _, _ => by simp at h
  | _ :: _, [], _, _, _, _, h, _, _, _, _, _, _ => by simp at h
theorem capD_rel {W : Wd} {F : Hp} {μ : List Addr} {S : St} {σ : L2.St} {H : Hp} (R : Rel W F μ S σ H) : ∀ {js : List Nat} {cds : List D}, capD S.σ js = some cds → ∃ vs, DRs W F μ cds vs ∧ js.map (NdefX.slotAt σ) = vs.map some
  | [], _, h => by cases h; exact ⟨[], .nil, rfl⟩
  | j :: js, _, h => by
    unfold capD at h
    split at h
    · rename_i d e1
      split at h
      · rename_i ds e2
        cases h
        obtain ⟨vs, h1, h2⟩ := capD_rel R e2
        obtain ⟨v, h3, h4⟩ := R.sl j d e1
        exact ⟨v :: vs, .cons h4 h1, by rw [List.map_cons, List.map_cons, NdefX.slotAt_of h3, h2]⟩
      · cases h
    · cases h
end
end Vi
/-! text Vc11 -/
set_option Elab.async false
set_option linter.all false
set_option maxRecDepth 100000
set_option maxHeartbeats 2000000
/-! Vc, part 11: return all([_law_is_raised(look, ..) for look, due in looks]). -/
namespace Vi
open PySem PySem.Spec PyProof.Rows L2 NdefX LamX

theorem capD_set {l : List Sl} {jl : Nat} {x : Sl} : ∀ {js : List Nat}, jl ∉ js → capD (l.set jl x) js = capD l js
  | [], _ => rfl
  | j :: js, h => by
    have h1 : j ≠ jl := fun z => h (by rw [z]; exact List.mem_cons_self)
    unfold capD
    rw [List.getElem?_set_ne (Ne.symm h1), capD_set (js := js) fun z => h (List.mem_cons_of_mem _ z)]
theorem chk_set {n nr jl : Nat} {ms : MS} {x : Sl} : ∀ {Ts : List LkT} {ds : List D} {S : St}, (∀ T ∈ Ts, jl ∉ T.js) → chkLk n ms nr Ts ds { S with σ := S.σ.set jl x } = chkLk n ms nr Ts ds S
  | [], [], S, _ => rfl
  | [], _ :: _, S, _ => rfl
  | _ :: _, [], S, _ => rfl
  | T :: Ts, d :: ds, S, h => by
    unfold chkLk
    rw [chk_set (Ts := Ts) fun T hT => h T (List.mem_cons_of_mem _ hT)]
    dsimp only
    rw [capD_set (h T List.mem_cons_self)]
theorem bls_rep : ∀ n : Nat, blsOf (List.replicate n (.bl true)) = some (List.replicate n true)
  | 0 => rfl
  | n + 1 => by
    show (blsOf (List.replicate n (.bl true))).map _ = _
    rw [bls_rep n]; rfl
/-- the arguments of _law_is_raised -/
def argsEx (jlook jdue : Nat) : Exs := .cons (.var jlook) (.cons (.idx (.bin .add (.var jdue) (.lst (.cons (.c .non) .nil))) (.c (.int 0))) .nil)
def tgEx (jlook jdue : Nat) : Tg := .tp (.cons (.nm jlook) (.cons (.nm jdue) .nil))
theorem args_ok {gv : Nat → D} {ar : Nat → Nat} {Φ : Nat → Cf} {jlook jdue : Nat} (S : St) (a : Addr) (d x : D) (h1 : S.σ[jlook]? = some (.s (.obj a))) (h2 : S.σ[jdue]? = some (.s d)) (h3 : idx0 d = some x) : (evs4 gv ar Φ (argsEx jlook jdue)).vs S = .ok [.obj a, x] S := by
  cases d with
  | lst xs =>
    unfold idx0 at h3
    dsimp only at h3
    by_cases hl : xs.length + 1 ≤ line
    · rw [if_pos hl] at h3
      have ez : L2.atI (xs ++ [D.non]) 0 = some x := by
        have q : L2.ixN (xs ++ [D.non]).length 0 = some 0 := by
          unfold L2.ixN
          rw [if_pos (Int.le_refl 0), if_pos (by rw [List.length_append]; show (0 : Int) < ((xs.length + 1 : Nat) : Int); omega)]; rfl
        unfold L2.atI
        rw [q]; exact h3
      have e0 : bind (mC D.non) esc S = .ok D.non S := rfl
      have e1 : mLst (mCons (mC D.non) mNil) S = .ok (.w (.lst [.non])) S := rfl
      have e2 : mVar jdue S = .ok (.v (.lst xs)) S := by unfold mVar; rw [h2]
      have e3 : bind (mVar jdue) (fun u => bind (mLst (mCons (mC D.non) mNil)) fun y => bind (rdh u) fun d => bind (rdh y) fun e => op2 .add d e) S = .ok (.w (.lst (xs ++ [.non]))) S := by
        rw [bind_ok e2]; rw [bind_ok e1]
        show (if xs.length + [D.non].length ≤ line then _ else _ : M O) S = _
        rw [show [D.non].length = 1 from rfl, if_pos hl]; rfl
      have e4 : mIdx (bind (mVar jdue) fun u => bind (mLst (mCons (mC D.non) mNil)) fun y => bind (rdh u) fun d => bind (rdh y) fun e => op2 .add d e) (mC (.int 0)) S = .ok (.v x) S := by
        unfold mIdx
        rw [bind_ok e3, bind_ok (show mC (.int 0) S = .ok (.v (.int 0)) S from rfl)]
        show Vi.bind (opt (L2.atI (xs ++ [.non]) 0)) (fun d => ret (O.v d)) S = _
        rw [ez]; rfl
      have e5 : mVar jlook S = .ok (.v (.obj a)) S := by unfold mVar; rw [h1]
      show mCons (mVar jlook) (mCons (mIdx (bind (mVar jdue) fun u => bind (mLst (mCons (mC D.non) mNil)) fun y => bind (rdh u) fun d => bind (rdh y) fun e => op2 .add d e) (mC (.int 0))) mNil) S = _
      generalize mIdx _ (mC (.int 0)) = mm at e4 ⊢
      unfold mCons
      rw [bind_ok (show Vi.bind (mVar jlook) esc S = .ok (.obj a) S by rw [bind_ok e5]; rfl)]
      rw [bind_ok (show Vi.bind (Vi.bind mm esc) (fun d => Vi.bind mNil fun ds => ret (d :: ds)) S = .ok [x] S by rw [bind_ok (show Vi.bind mm esc S = .ok x S by rw [bind_ok e4]; rfl)]; rfl)]
      rfl
    · rw [if_neg hl] at h3; cases h3
  | _ => cases h3
/-- a look's text is apt in the maker X -/
structure LkW (X : Cx) (T : LkT) : Prop where
  w : LamW X T.L
  fr : ∀ y ∈ T.fr, (y, NameKind.free) ∈ T.L.scope.names
  js : T.js.map (fun j => X.N[j]?) = T.fr.map some
theorem ca_mem {n nr : Nat} {ms : MS} {l : List Sl} {q : Str} {cells : List (Str × Addr)} {F : Hp} {a : Addr} {due : D} {h : List D} : ∀ {Ts : List LkT} {fs : List Addr}, LkAll q cells F (Ts.map (·.L)) fs → caLk n ms nr l fs Ts a due h = true → ∃ T ∈ Ts, ∃ cds, capD l T.js = some cds ∧ lkCheck n ms nr T cds due h = true ∧ LkOk q cells F T.L a
  | [], _, .nil, hc => by cases hc
  | T :: Ts, f :: fs, .cons k t, hc => by
    unfold caLk at hc
    by_cases hf : f = a
    · rw [if_pos hf] at hc
      split at hc
      · rename_i cds e
        exact ⟨T, List.mem_cons_self, cds, e, hc, hf ▸ k⟩
      · cases hc
    · rw [if_neg hf] at hc
      obtain ⟨T', m, z⟩ := ca_mem t hc
      exact ⟨T', List.mem_cons_of_mem _ m, z⟩
theorem LkAll.nodk {q : Str} {cells : List (Str × Addr)} {F : Hp} {Ts : List LkT} {fs : List Addr} (h : LkAll q cells F (Ts.map (·.L)) fs) : Ts.length = fs.length := by rw [← h.len, List.length_map]
/-- the list of what the looks say -/
def tLkL (X : Cx) (C : Cc) (jl n nr : Nat) (ms : MS) (Ts : List LkT) : TE := fun σ H Q => ∃ F μ S fs ds, Rel (wd X C) F μ S σ H ∧ S.σ[jl]? = some (.o (.lst (lkItems fs ds))) ∧ ds.length = fs.length ∧ LkAll (X.env.qual ++ "<lambda>") X.env.cells F (Ts.map (·.L)) fs ∧ fs.Nodup ∧ chkLk n ms nr Ts ds S = true ∧ fs.length < 1000 ∧
  ∀ F' μ' S' v H', Step (wd X C) F μ S σ H F' μ' S' σ H' → S'.h = S.h → S'.σ.length = S.σ.length → OR (wd X C) H F' μ' S' σ H' (.w (.lst (List.replicate fs.length (.bl true)))) v → Q v H'
section
variable {C : Cc} {k' n k : Nat} {fs : List FI} {gn : Nat → Option Str} {gv : Nat → D} {Φ : Nat → Cf} {X : Cx} {I : Inf} {E : XK} {xI : Str} {fI : Addr} {nr jl jlook jdue : Nat} {ms : MS} {Ts : List LkT} {e : Expr} {es : List Expr} {tg : Expr} {scope : Scope} {p1 p2 pos pos' : Pos}
theorem pe_looks (g : GX C k' fs gn gv Φ X I E) (B : IsrB X.prog X.w X.K X.mg X.base C n k xI fI nr ms) (hr : RoomG (k + 3) X.A) (hT : ∀ T ∈ Ts, LkW X T ∧ LamB X.prog X.w X.K X.mg X.base C k (X.env.qual ++ "<lambda>") T.L T.fr T.m)
    (h1 : blkC I.N I.sc scope ([jlook, jdue].map fun i => (I.N.getD i "", i)) = true) (h2 : chkT (I.blk scope) [jlook, jdue] (tgEx jlook jdue) tg = true) (hg : glB (I.blk scope).sc xI = true) (h3 : (chks4 (fnO fs) gn (argsEx jlook jdue) (I.blk scope)).s (e :: es) = true) (hns : (e :: es).all notStar = true)
    (hN : X.N[jl]? = some ("looks" : Str)) (hv : Vis X.env.scope ("looks" : Str)) (hne : jlook ≠ jdue) (hj1 : jlook < I.N.length) (hj2 : jdue < I.N.length) (hjl : jl ≠ jlook ∧ jl ≠ jdue) (hjs : ∀ T ∈ Ts, jl ∉ T.js) :
    PE X (.ListComp (.Call (.Name xI p1) (e :: es) [] pos) [⟨tg, .Name "looks" p2, [], 0⟩] scope pos') (tLkL X C jl n nr ms Ts) := by
  refine ⟨fun pins s σ H Q I0 ⟨F, μ, S, fA, ds, R, hs, hl, LA, nd, hchk, hlen, fin⟩ => ?_⟩
  have eo : ([jlook, jdue].map fun i => (I.N.getD i "", i)).map (·.2) = [jlook, jdue] := by rw [List.map_map]; exact List.map_id _
  have hca := ca_of_chk rfl nd LA.nodk hchk
  refine lcF_run (own := [jlook, jdue].map fun i => (I.N.getD i "", i)) (wi := tI (wd X C) E (mItems (mVar jl))) (g := tGt (wd X C) [jlook, jdue] (gT (tgEx jlook jdue))) (tt := tT (wd X C) XF (ret true)) (te := tDa (wd X C) XF F μ (Vi.bind (evs4 gv (arO fs) Φ (argsEx jlook jdue)).vs (kElt (caLk n ms nr S.σ fA Ts)))) g.calm (by rw [g.n]; exact g.nd) I0 (si_val (se_var hN hv (by decide) (by decide))) (by rw [g.n, g.sc]; exact blkOk_by h1) (fun s H A cl fp => tg_ok _ (g.blk s H A cl fp) h2) (fun s H A cl fp => sc_nil) (fun s H I1 fp hfp A cl => ?_) (fun x => rfl) ?_
  · refine pe_elt (n := n) (k := k) (nr := nr) (ms := ms) B I1 hr hfp ((g.blk s H A cl fp).gl hg) ((exs_ok (argsEx jlook jdue) (g.blk s H A cl fp)).s _ h3).1 (star_of (by simp at hns; exact hns.1)) (stars_of (by simp at hns; simpa using hns.2)) ?_
    intro a due h hc
    obtain ⟨T, hTm, cds, e1, e2, lk⟩ := ca_mem LA hc
    obtain ⟨vs, rv, ev⟩ := capD_rel R e1
    obtain ⟨w, b⟩ := hT T hTm
    exact ⟨T, cds, vs, lk, rv, ev, Caps.made I1.ok w.w.fr w.fr w.js, b, e2⟩
  · rw [eo]
    have hj : jl < S.σ.length := by
      rcases Nat.lt_or_ge jl S.σ.length with h | h
      · exact h
      · rw [List.getElem?_eq_none h] at hs; cases hs
    have len1 : S.σ.length = I.N.length := by rw [R.len, I0.len, g.n]
    have e1 : mItems (mVar jl) S = .ok (lkItems fA ds) { S with σ := S.σ.set jl (.s (.lst (lkItems fA ds))) } := by
      unfold mItems
      have q1 : mVar jl S = .ok (.at jl) S := by unfold mVar; rw [hs]
      have q2 : esc (.at jl) S = .ok (.lst (lkItems fA ds)) { S with σ := S.σ.set jl (.s (.lst (lkItems fA ds))) } := by
        show (match S.σ[jl]? with
          | some (.s d) => Vi.R.ok d S
          | some (.o d) => Vi.R.ok d { S with σ := S.σ.set jl (.s d) }
          | _ => Vi.R.fail) = _
        rw [hs]
      rw [bind_ok (show Vi.bind (mVar jl) esc S = _ by rw [bind_ok q1]; exact q2)]
      rfl
    generalize eS : ({ S with σ := S.σ.set jl (.s (.lst (lkItems fA ds))) } : St) = S1 at e1
    have l1 : S1.σ.length = S.σ.length := by rw [← eS]; exact List.length_set
    have hh1 : S1.h = S.h := by rw [← eS]
    have e2 := lcGo_ok (jlook := jlook) (jdue := jdue) (g := gT (tgEx jlook jdue)) (margs := (evs4 gv (arO fs) Φ (argsEx jlook jdue)).vs) (ca := caLk n ms nr S.σ fA Ts) (Sm := S1.mask [jlook, jdue]) (fun a d S => rfl) (fun S a d x => args_ok S a d x) hne
      (by show _ < (mask _ 0 S1.σ).length; rw [mask_len, l1, len1]; exact hj1) (by show _ < (mask _ 0 S1.σ).length; rw [mask_len, l1, len1]; exact hj2) (mask_mask _ _) fA ds [] hl
      (fun i f d a b => by
        show ∃ x, idx0 d = some x ∧ caLk n ms nr S.σ fA Ts f x S1.h = true
        rw [hh1]; exact hca i f d a b) (by show 0 + fA.length < line; unfold line; omega)
    refine tLc_ofS (W := wd X C) (F := F) (μ := μ) (S := S) (vs := [jlook, jdue]) (ws := [jlook, jdue]) (fun i hi => hi) R (Sub.refl _) (fun _ _ z => z) (Post.okE (S' := (S1.mask [jlook, jdue]).back [jlook, jdue] S1) (a := .w (.lst (List.replicate fA.length (.bl true)))) ?_ fun F' μ' v H' t n r => fin F' μ' _ v H' t hh1 ?_ r)
    · unfold mLc
      rw [bind_ok e1]
      rw [e2]
      rfl
    · show (unmask _ 0 S1.σ (mask _ 0 S1.σ)).length = _
      rw [unmask_len _ _ _ _ (mask_len _ _ _).symm, mask_len, l1]
theorem pss_last {pa pc pr : Pos} (g : GX C k' fs gn gv Φ X I E) (B : IsrB X.prog X.w X.K X.mg X.base C n k xI fI nr ms) (hr : RoomG (k + 3) X.A) (hT : ∀ T ∈ Ts, LkW X T ∧ LamB X.prog X.w X.K X.mg X.base C k (X.env.qual ++ "<lambda>") T.L T.fr T.m)
    (h1 : blkC I.N I.sc scope ([jlook, jdue].map fun i => (I.N.getD i "", i)) = true) (h2 : chkT (I.blk scope) [jlook, jdue] (tgEx jlook jdue) tg = true) (hg : glB (I.blk scope).sc xI = true) (h3 : (chks4 (fnO fs) gn (argsEx jlook jdue) (I.blk scope)).s (e :: es) = true) (hns : (e :: es).all notStar = true)
    (hN : X.N[jl]? = some ("looks" : Str)) (hv : Vis X.env.scope ("looks" : Str)) (hne : jlook ≠ jdue) (hj1 : jlook < I.N.length) (hj2 : jdue < I.N.length) (hjl : jl ≠ jlook ∧ jl ≠ jdue) (hjs : ∀ T ∈ Ts, jl ∉ T.js) (hga : glB I.sc ("all" : Str) = true) (hlen : Ts.length < 1000) :
    PSs X [.Return (some (.Call (.Name "all" pa) [.ListComp (.Call (.Name xI p1) (e :: es) [] pos) [⟨tg, .Name "looks" p2, [], 0⟩] scope pos'] [] pc)) pr] (tLk X C jl (Ts.map (·.L)) [] (chkLk n ms nr Ts)) := by
  refine pssW' (pss_cons (ps_ret (pe_callB (cr_all' (C := C) (E := E) g.calm) (g.gl hga) (g.blt _ (by decide)) (by decide +kernel) (pa_cons (pe_looks (jl := jl) (p1 := p1) (p2 := p2) (pos := pos) (pos' := pos') g B hr hT h1 h2 hg h3 hns hN hv hne hj1 hj2 hjl hjs) pa_nil rfl))) pss_nil) fun D σ H ⟨F0, μ0, S0, σ0, H0, F, μ, S, fA, ds, al, rest, S1, T, hσ, wo, hl, LA, nd, hdu, hchk, fin⟩ => ?_
  cases hdu
  rw [List.append_nil] at hchk
  have T1 := T.setW (i := jl) wo
  have eσ : σ.set jl (some (.ref al)) = σ := by
    apply List.ext_getElem?
    intro i
    by_cases hi : i = jl
    · subst hi
      rw [hσ, List.getElem?_set_self]
      rcases Nat.lt_or_ge i σ.length with h | h
      · exact h
      · rw [List.getElem?_eq_none h] at hσ; cases hσ
    · rw [List.getElem?_set_ne (Ne.symm hi)]
  rw [eσ] at T1
  have hj : jl < S.σ.length := by
    rw [T.rel.len]
    rcases Nat.lt_or_ge jl σ.length with h | h
    · exact h
    · rw [List.getElem?_eq_none h] at hσ; cases hσ
  refine ⟨F, μ, _, fA, ds, T1.rel, List.getElem?_set_self hj, hl, LA, nd, ?_, ?_, fun F' μ' S' v H' t eh el r => ?_⟩
  · rw [chk_set hjs]; exact hchk
  · rw [← LA.nodk]; exact hlen
  obtain ⟨a, rfl, lv, _⟩ := r
  refine ⟨F', μ', S', σ, [.lst (List.replicate fA.length (.bl true))], t.rel, .cons (.inr ⟨a, rfl, lv⟩) .nil, ?_⟩
  have ek : kAll [.lst (List.replicate fA.length (.bl true))] S' = .ok (.v (.bl true)) S' := by
    show (match blsOf (List.replicate fA.length (.bl true)) with
      | some bs => ret (O.v (.bl (bs.all id)))
      | none => fail) S' = _
    rw [bls_rep]
    show Vi.R.ok (O.v (.bl ((List.replicate fA.length true).all id))) S' = _
    rw [show (List.replicate fA.length true).all id = true by simp]
  refine Post.okE ek fun F2 μ2 u H2 t2 n2 r2 => ?_
  cases r2
  have eb : blank S' = blank S := by
    unfold blank
    rw [eh, el]
    show (⟨List.replicate (S.σ.set jl _).length Sl.e, S.h⟩ : St) = _
    rw [List.length_set]
  have z := ((T1.trans t).trans t2).blank
  rw [eb] at z
  exact fin _ _ _ _ z
end
end Vi
/-! text Vc12 -/
set_option Elab.async false
set_option linter.all false
set_option maxRecDepth 100000
set_option maxHeartbeats 2000000
/-! Vc, part 12: the texts of lambdas, checked. -/
namespace Vi
open PySem PySem.Spec PyProof.Rows L2 NdefX LamX

/-- of a look: the names that its lambda takes from the maker, their slots; the lambda's body, what is due -/
structure LkB where
  fr : List Str
  js : List Nat
  bd : Ex
  due : Ex
def noPars : Arguments → Bool
  | ⟨[], [], none, [], [], none, []⟩ => true
  | _ => false
theorem noPars_eq {a : Arguments} (h : noPars a = true) : a = ⟨[], [], none, [], [], none, []⟩ := by
  unfold noPars at h
  split at h
  · rfl
  · cases h
def chkLm (fnm gn : Nat → Option Str) (I : Inf) (b : LkB) (L : LamT) : Bool :=
  noPars L.params && nscB b.fr [] b.fr L.scope && L.scope.names.all (fun y => !decide (y.2 = .free) || decide (I.sc.names.lookup y.1 = some .cell) || decide (I.sc.names.lookup y.1 = some .free)) && b.fr.all (fun y => decide ((y, NameKind.free) ∈ L.scope.names)) &&
    decide (b.js.map (fun j => I.N[j]?) = b.fr.map some) && (chk4 fnm gn b.bd ⟨b.fr, L.scope, some L.scope⟩).v L.body
def lkOf (gv : Nat → D) (ar : Nat → Nat) (Φ : Nat → Cf) (b : LkB) (L : LamT) : LkT := ⟨L, b.fr, b.js, (ev4 gv ar Φ b.bd).v⟩
section
variable {C : Cc} {k k1 n : Nat} {fs : List FI} {gn : Nat → Option Str} {gv : Nat → D} {Φ : Nat → Cf} {X : Cx} {I : Inf} {E : XK} {b : LkB} {L : LamT} {q : Str}
theorem lamB_of (g : GX C k fs gn gv Φ X I E) (h : chkLm (fnO fs) gn I b L = true) : LamB X.prog X.w X.K X.mg X.base C k q L b.fr (ev4 gv (arO fs) Φ b.bd).v := by
  unfold chkLm at h
  simp only [Bool.and_eq_true] at h
  obtain ⟨⟨⟨⟨⟨h1, h2⟩, h3⟩, h4⟩, h5⟩, h6⟩ := h
  have S := nscope_by h2
  refine ⟨S, fun c' cl pm ctv => ?_, fun A outer s H E f c' cl hr => ?_⟩
  · rw [noPars_eq h1]; rfl
  · have gg : GX C k fs gn gv Φ (ncx (L2.CX X.prog X.w) X.prog X.w X.K X.mg X.base b.fr (lamF q L cl c') f A outer s H E) ⟨b.fr, L.scope, some L.scope⟩ E := by
      refine ⟨rfl, S.nd, rfl, fun x hx => ?_, rfl, hr, passes_call (takes_of rfl rfl rfl rfl) fun _ _ _ _ h => h, g.blt, fun i fi e => g.fs i fi e, g.k2, g.xi, g.xv, g.gls⟩
      have hx : (L.scope.names.lookup x == some NameKind.cell) = true := hx
      have e := eq_of_beq hx
      exact absurd rfl (S.nocell _ (mem_of_lookup e))
    exact (ex_ok b.bd gg).v _ h6
theorem lkW_of (g : GX C k fs gn gv Φ X I E) (h : chkLm (fnO fs) gn I b L = true) (m : M O) : LkW X ⟨L, b.fr, b.js, m⟩ := by
  unfold chkLm at h
  simp only [Bool.and_eq_true] at h
  obtain ⟨⟨⟨⟨⟨h1, h2⟩, h3⟩, h4⟩, h5⟩, h6⟩ := h
  refine ⟨⟨?_, fun y hy e => ?_⟩, fun y hy => ?_, ?_⟩
  · show defaultsOf L.params X.env = _
    rw [noPars_eq h1]; rfl
  · have z := (List.all_eq_true.mp h3) y hy
    rw [g.sc]
    simp only [Bool.or_eq_true, Bool.not_eq_true', decide_eq_true_eq, decide_eq_false_iff_not] at z
    rcases z with (z | z) | z
    · exact absurd e z
    · exact .inl z
    · exact .inr z
  · have z := (List.all_eq_true.mp h4) y hy
    exact of_decide_eq_true z
  · rw [g.n]; exact of_decide_eq_true h5
end
section
variable {P : Program} {w : World} {K : PySem.W.Frag} {mg : Str → Option Value} {base : Heap} {C : Cc} {k n : Nat} {fs : List FI} {gn : Nat → Option Str} {gv : Nat → D} {Φ : Nat → Cf}
  {xI xM xC : Str} {nameC qualC name qual : Str} {paramsC params : Arguments} {bodyC rest : List Stmt} {st : Stmt} {scopeC scope : Scope} {dVC kVC docC pmC cdvC ctC ocC dV kV doc pm cdv ct oc : Value} {anC odC an od : Option Addr} {oslC osl : Array (Option Value)} {N : List Str} {fC fI : Addr} {ast : Sms}
/-- what any def's body may take for granted -/
structure GB (P : Program) (w : World) (K : PySem.W.Frag) (mg : Str → Option Value) (base : Heap) (C : Cc) (k : Nat) (fs : List FI) (gn : Nat → Option Str) (gv : Nat → D) (Φ : Nat → Cf) : Prop where
  blt : ∀ b ∈ bltNames, mg b = none
  fs : ∀ i fi, fs[i]? = some fi → FnG P w K mg base (L2.CX P w) k fi.f fi.fd fi.ps (spF ⟨P, w, K, C⟩ fi.ps.length (Φ i)) ∧ mg fi.x = some (.ref fi.f) ∧ PySem.W.keepIn K (.ref fi.f) = true ∧ Binds K fi.fd fi.ps []
  k2 : 2 ≤ k
  xi : XisF K C (xcN gv)
  xv : XvF K C (xcN gv)
  gls : ∀ i x, gn i = some x → ∃ u v, mg x = some u ∧ RelV v u ∧ ∀ F μ, DR ⟨P, w, K, C⟩ F μ (gv i) v
  xr : 0 < xcN gv → ∃ D fI fd, FnOk P w K mg base (L2.CX P w) 1 fI fd ["self", "value"] (spI K D fI) ∧ Binds K fd ["self", "value"] [] ∧ ∀ c, c < xcN gv → XcF K (C c) D fI
theorem GB.sx (g : GB P w K mg base C k fs gn gv Φ) (S : FnScope N ["call", "due"] scope) {f : Addr} {cdv : Value} {A : Around} {outer : List Env} {s : Shared} {H : Hp} {E : XK} (r : RoomG k (cxOf (L2.CX P w) P w K mg base N qual scope f cdv A outer s H E).A) :
    SX C k fs gn gv Φ (cxOf (L2.CX P w) P w K mg base N qual scope f cdv A outer s H E) ⟨N, scope, none⟩ E := by
  refine ⟨⟨rfl, S.nd, rfl, fun _ _ => rfl, rfl, r, passes_call (takes_of rfl rfl rfl rfl) fun _ _ _ _ h => h, g.blt, g.fs, g.k2, g.xi, g.xv, g.gls⟩, S.kind, passes_of rfl, takes_of rfl rfl rfl rfl, g.xr⟩
theorem isrB_of (g : GB P w K mg base C k fs gn gv Φ) (J : IsF K mg xC fC N st scope) (lk : K.lookup fI = some ⟨oc, od, .func (PySem.W.fnOf name qual params (st :: rest) scope dV kV doc pm an cdv ct), osl⟩) (hcd : PySem.W.codeIn K cdv qual = true) (hbI : Binds K (PySem.W.fnOf name qual params (st :: rest) scope dV kV doc pm an cdv ct) ["call", "due"] [])
    (G : CtF K mg C n xM bodyC scopeC) (lkC : K.lookup fC = some ⟨ocC, odC, .func (PySem.W.fnOf nameC qualC paramsC bodyC scopeC dVC kVC docC pmC anC cdvC ctC), oslC⟩) (hcdC : PySem.W.codeIn K cdvC qualC = true) (hbC : Binds K (PySem.W.fnOf nameC qualC paramsC bodyC scopeC dVC kVC docC pmC anC cdvC ctC) ["call"] [])
    (hmg : mg xI = some (.ref fI)) (hkp : PySem.W.keepIn K (.ref fI) = true) (hnm : (xI == ("__debug__" : Str)) = false) (hc : chkSs (fnO fs) gn ast ⟨N, scope, none⟩ rest = true) :
    IsrB P w K mg base C n k xI fI (N.length - 3) (runs gv (arO fs) Φ ast) := by
  refine ⟨fun {A outer s H F μ Q E q L fr vs f c' cds h m r due u v} B Z hr e0 R rd ru rdu hz hn hok p => ?_, hmg, hkp, hnm⟩
  have hl : ([Value.ref f, u] ++ ([] : List Value)).length = (["call", "due"] : List Str).length := rfl
  refine isr_run (A := A) (E := E) (ok := fun h' => sameDs h' h) J lk hcd G lkC hcdC hbC B Z hr e0 (hbI s [.ref f, u] (e0.mod.kin.keeps fun b o e => (e0.bs b o e).1) hl) R rd ru rdu hz (fun h' e => sameDs_ok e) hn (fun E' hr' => ?_) hok p
  exact sms_ok ast (g.sx J.sc ⟨hr'.1.mono (by omega), hr'.2⟩) hc
end
end Vi
/-! text Vc13 -/
set_option Elab.async false
set_option linter.all false
set_option maxRecDepth 100000
set_option maxHeartbeats 2000000
/-! Vc, part 13: a def whose end is a list of looks. -/
namespace Vi
open PySem PySem.Spec PyProof.Rows L2 NdefX LamX

def mLooks (jl : Nat) (m : M O) (todo : List (M O)) (chk : List D → St → Bool) : MS := fun S => if jl < S.σ.length then (match Vi.bind m esc S with
  | .ok d S' => (match dues todo { S' with σ := S'.σ.set jl .e } with
    | .ok rest S1 => if chk (d :: rest) S1 = true then .rt (.v (.bl true)) (blank S1) else .fail
    | _ => .fail)
  | _ => .fail) else .fail
def lkStmt0 : Stmt → Option (LamT × Expr)
  | .Assign [.Name x _] (.List [.Tuple [.Lambda ps bd sc _, e] _ _] _) _ => if x = ("looks" : Str) then some (⟨ps, bd, sc⟩, e) else none
  | _ => none
def lkStmt : Stmt → Option (LamT × Expr)
  | .Expr (.Call (.Attribute (.Name x _) nm ap) [.Tuple [.Lambda ps bd sc _, e] _ _] [] cp) _ => if decide (x = ("looks" : Str)) && decide (nm = ("append" : Str)) && (ap.endLine == cp.line) then some (⟨ps, bd, sc⟩, e) else none
  | _ => none
def lkLast (fnm gn : Nat → Option Str) (I : Inf) (xI : Str) (jlook jdue : Nat) : Stmt → Bool
  | .Return (some (.Call (.Name x _) [.ListComp (.Call (.Name y _) (e :: es) [] _) [⟨tg, .Name z _, [], 0⟩] scope _] [] _)) _ =>
    decide (x = ("all" : Str)) && decide (y = xI) && decide (z = ("looks" : Str)) && blkC I.N I.sc scope ([jlook, jdue].map fun i => (I.N.getD i "", i)) && chkT (I.blk scope) [jlook, jdue] (tgEx jlook jdue) tg && glB (I.blk scope).sc xI && (chks4 fnm gn (argsEx jlook jdue) (I.blk scope)).s (e :: es) && (e :: es).all notStar && glB I.sc ("all" : Str)
  | _ => false
def chkDue (fnm gn : Nat → Option Str) (I : Inf) (b : LkB) (e : Expr) : Bool := notStar e && (chk4 fnm gn b.due I).v e
def chkApp (fnm gn : Nat → Option Str) (I : Inf) (xI : Str) (jlook jdue : Nat) : List LkB → List Stmt → Option (List LamT)
  | [], [st] => if lkLast fnm gn I xI jlook jdue st then some [] else none
  | b :: bs, st :: sts => (match lkStmt st with
    | some (L, e) => if chkLm fnm gn I b L && chkDue fnm gn I b e then (match chkApp fnm gn I xI jlook jdue bs sts with
      | some Ls => some (L :: Ls)
      | none => none) else none
    | none => none)
  | _, _ => none
/-- the looks part of the body, checked -/
def chkSfx (fnm gn : Nat → Option Str) (I : Inf) (xI : Str) (jl jlook jdue : Nat) (b : LkB) (bs : List LkB) : List Stmt → Bool
  | st :: sts => decide (I.N[jl]? = some ("looks" : Str)) && visB I.sc ("looks" : Str) && locB I.sc ("looks" : Str) && isLocalB I.sc && decide (jlook ≠ jdue) && decide (jlook < I.N.length) && decide (jdue < I.N.length) && decide (jl ≠ jlook) && decide (jl ≠ jdue) && !b.js.contains jl && bs.all (fun b => !b.js.contains jl) && decide (bs.length < 900) &&
    (match lkStmt0 st with
    | some (L, e) => chkLm fnm gn I b L && chkDue fnm gn I b e && (chkApp fnm gn I xI jlook jdue bs sts).isSome
    | none => false)
  | [] => false
where isLocalB (sc : Scope) : Bool := decide (sc.names.lookup ("looks" : Str) = some .local)
def noLam : LamT := ⟨⟨[], [], none, [], [], none, []⟩, .Name "" default, default⟩
/-- the looks, with the lambdas' texts -/
def lkAll (gv : Nat → D) (ar : Nat → Nat) (Φ : Nat → Cf) : List LkB → List LamT → List LkT
  | b :: bs, L :: Ls => lkOf gv ar Φ b L :: lkAll gv ar Φ bs Ls
  | _, _ => []
/-- .. without them -/
def lkBare (gv : Nat → D) (ar : Nat → Nat) (Φ : Nat → Cf) : List LkB → List LkT
  | [] => []
  | b :: bs => lkOf gv ar Φ b noLam :: lkBare gv ar Φ bs
theorem lk_bare {gv : Nat → D} {ar : Nat → Nat} {Φ : Nat → Cf} {n nr : Nat} {ms : MS} : ∀ {bs : List LkB} {Ls : List LamT} {ds : List D} {S : St}, bs.length = Ls.length → chkLk n ms nr (lkAll gv ar Φ bs Ls) ds S = chkLk n ms nr (lkBare gv ar Φ bs) ds S
  | [], [], ds, S, _ => rfl
  | b :: bs, L :: Ls, [], S, _ => rfl
  | b :: bs, L :: Ls, d :: ds, S, h => by
    show ((match capD S.σ b.js with | some cds => _ | none => false) && chkLk n ms nr (lkAll gv ar Φ bs Ls) ds S) = ((match capD S.σ b.js with | some cds => _ | none => false) && chkLk n ms nr (lkBare gv ar Φ bs) ds S)
    rw [lk_bare (by simpa using h)]
    rfl
  | [], _ :: _, _, _, h => by simp at h
  | _ :: _, [], _, _, h => by simp at h
section
variable {C : Cc} {k k1 n nr jl jlook jdue : Nat} {fs : List FI} {gn : Nat → Option Str} {gv : Nat → D} {Φ : Nat → Cf} {X : Cx} {I : Inf} {E : XK} {b : LkB} {bs : List LkB} {L : LamT} {xI : Str} {fI c P : Addr} {ms : MS} {st : Stmt} {sts : List Stmt} {Ts done : List LkT}
theorem lkStmt_eq {e : Expr} (h : lkStmt st = some (L, e)) : ∃ (p1 ap lp tp cp pos : Pos) (kk : Nat), st = .Expr (.Call (.Attribute (.Name "looks" p1) "append" ap) [.Tuple [.Lambda L.params L.body L.scope lp, e] kk tp] [] cp) pos ∧ (ap.endLine == cp.line) = true := by
  unfold lkStmt at h
  split at h
  · split at h
    · rename_i hc
      simp only [Bool.and_eq_true, decide_eq_true_eq] at hc
      obtain ⟨⟨rfl, rfl⟩, h3⟩ := hc
      cases h
      exact ⟨_, _, _, _, _, _, _, rfl, h3⟩
    · cases h
  · cases h
theorem lkStmt0_eq {e : Expr} (h : lkStmt0 st = some (L, e)) : ∃ (p1 lp tp pl pos : Pos) (kk : Nat), st = .Assign [.Name "looks" p1] (.List [.Tuple [.Lambda L.params L.body L.scope lp, e] kk tp] pl) pos := by
  unfold lkStmt0 at h
  split at h
  · split at h
    · rename_i hc
      subst hc
      cases h
      exact ⟨_, _, _, _, _, _, rfl⟩
    · cases h
  · cases h
theorem lkLast_ok (g : GX C k fs gn gv Φ X I E) (B : IsrB X.prog X.w X.K X.mg X.base C n k1 xI fI nr ms) (hr : RoomG (k1 + 3) X.A) (hT : ∀ T ∈ Ts, LkW X T ∧ LamB X.prog X.w X.K X.mg X.base C k1 (X.env.qual ++ "<lambda>") T.L T.fr T.m)
    (hN : X.N[jl]? = some ("looks" : Str)) (hv : Vis X.env.scope ("looks" : Str)) (hne : jlook ≠ jdue) (hj1 : jlook < I.N.length) (hj2 : jdue < I.N.length) (hjl : jl ≠ jlook ∧ jl ≠ jdue) (hjs : ∀ T ∈ Ts, jl ∉ T.js) (hlen : Ts.length < 1000)
    (h : lkLast (fnO fs) gn I xI jlook jdue st = true) : PSs X [st] (tLk X C jl (Ts.map (·.L)) [] (chkLk n ms nr Ts)) := by
  unfold lkLast at h
  split at h
  · simp only [Bool.and_eq_true, decide_eq_true_eq] at h
    obtain ⟨⟨⟨⟨⟨⟨⟨⟨rfl, rfl⟩, rfl⟩, h4⟩, h5⟩, h6⟩, h7⟩, h8⟩, h9⟩ := h
    exact pss_last g B hr hT h4 h5 h6 h7 h8 hN hv hne hj1 hj2 hjl hjs h9 hlen
  · cases h
theorem app_len : ∀ {bs : List LkB} {sts : List Stmt} {fnm gn : Nat → Option Str} {I : Inf} {Ls : List LamT}, chkApp fnm gn I xI jlook jdue bs sts = some Ls → bs.length = Ls.length
  | [], [st], _, _, _, Ls, h => by
    unfold chkApp at h
    split at h
    · cases h; rfl
    · cases h
  | [], [], _, _, _, Ls, h => by cases h
  | [], _ :: _ :: _, _, _, _, Ls, h => by cases h
  | b :: bs, [], _, _, _, Ls, h => by cases h
  | b :: bs, st :: sts, _, _, _, Ls, h => by
    unfold chkApp at h
    split at h
    · split at h
      · split at h
        · rename_i e
          cases h
          simp [app_len e]
        · cases h
      · cases h
    · cases h
theorem app_all (g : GX C k fs gn gv Φ X I E) : ∀ {bs : List LkB} {sts : List Stmt} {Ls : List LamT}, chkApp (fnO fs) gn I xI jlook jdue bs sts = some Ls → ∀ T ∈ lkAll gv (arO fs) Φ bs Ls, LkW X T ∧ LamB X.prog X.w X.K X.mg X.base C k (X.env.qual ++ "<lambda>") T.L T.fr T.m
  | [], _, _, _, T, hT => by
    cases hT
  | b :: bs, [], Ls, h, T, hT => by cases h
  | b :: bs, st :: sts, Ls, h, T, hT => by
    unfold chkApp at h
    split at h
    · split at h
      · rename_i hc
        split at h
        · rename_i e
          cases h
          rw [Bool.and_eq_true] at hc
          rcases List.mem_cons.mp hT with rfl | hT
          · exact ⟨lkW_of g hc.1 _, lamB_of g hc.1⟩
          · exact app_all g e T hT
        · cases h
      · cases h
    · cases h
theorem app_js : ∀ {bs : List LkB} {Ls : List LamT}, bs.all (fun b => !b.js.contains jl) = true → ∀ T ∈ lkAll gv (arO fs) Φ bs Ls, jl ∉ T.js
  | [], _, _, T, hT => by
    cases hT
  | b :: bs, [], _, T, hT => by cases hT
  | b :: bs, L :: Ls, h, T, hT => by
    simp only [List.all_cons, Bool.and_eq_true] at h
    rcases List.mem_cons.mp hT with rfl | hT
    · exact fun z => by
        have := h.1
        rw [Bool.not_eq_true', ← Bool.not_eq_true] at this
        exact this (List.contains_iff_mem.mpr z)
    · exact app_js h.2 T hT
theorem all_len : ∀ {bs : List LkB} {Ls : List LamT}, bs.length = Ls.length → (lkAll gv (arO fs) Φ bs Ls).length = bs.length
  | [], [], _ => rfl
  | b :: bs, L :: Ls, h => by
    show (lkAll gv (arO fs) Φ bs Ls).length + 1 = _
    rw [all_len (by simpa using h)]; rfl
  | [], _ :: _, h => by simp at h
  | _ :: _, [], h => by simp at h
theorem app_ok (g : GX C k fs gn gv Φ X I E) (M : MkF X C c P) (B : IsrB X.prog X.w X.K X.mg X.base C n k1 xI fI nr ms) (hr : RoomG (k1 + 3) X.A) (hT : ∀ T ∈ Ts, LkW X T ∧ LamB X.prog X.w X.K X.mg X.base C k1 (X.env.qual ++ "<lambda>") T.L T.fr T.m)
    (hN : X.N[jl]? = some ("looks" : Str)) (hv : Vis X.env.scope ("looks" : Str)) (hne : jlook ≠ jdue) (hj1 : jlook < I.N.length) (hj2 : jdue < I.N.length) (hjl : jl ≠ jlook ∧ jl ≠ jdue) (hjs : ∀ T ∈ Ts, jl ∉ T.js) (hlen : Ts.length < 1000) :
    ∀ {bs : List LkB} {sts : List Stmt} {Ls : List LamT} {done : List LkT}, chkApp (fnO fs) gn I xI jlook jdue bs sts = some Ls → Ts = done ++ lkAll gv (arO fs) Φ bs Ls → PSs X sts (tLk X C jl (done.map (·.L)) (bs.map fun b => (ev4 gv (arO fs) Φ b.due).v) (chkLk n ms nr Ts))
  | [], [st], Ls, done, h, e => by
    unfold chkApp at h
    split at h
    · rename_i hc
      cases h
      have e : Ts = done ++ [] := e
      rw [List.append_nil] at e
      subst e
      exact lkLast_ok g B hr hT hN hv hne hj1 hj2 hjl hjs hlen hc
    · cases h
  | [], [], Ls, done, h, e => by cases h
  | [], _ :: _ :: _, Ls, done, h, e => by cases h
  | b :: bs, [], Ls, done, h, e => by cases h
  | b :: bs, st :: sts, Ls, done, h, e => by
    unfold chkApp at h
    split at h
    · rename_i L ex hs
      split at h
      · rename_i hc
        split at h
        · rename_i Ls' e2
          cases h
          rw [Bool.and_eq_true] at hc
          obtain ⟨p1, ap, lp, tp, cp, pos, kk, rfl, hline⟩ := lkStmt_eq hs
          have hd := hc.2
          unfold chkDue at hd
          rw [Bool.and_eq_true] at hd
          have eT : Ts = (done ++ [lkOf gv (arO fs) Φ b L]) ++ lkAll gv (arO fs) Φ bs Ls' := by rw [List.append_assoc]; exact e
          have r := app_ok g M B hr hT hN hv hne hj1 hj2 hjl hjs hlen e2 eT
          rw [List.map_append] at r
          have hlt : (done.map (·.L)).length < 1000 := by
            have := congrArg List.length e
            rw [List.length_append] at this
            rw [List.length_map]; omega
          exact pss_look (L := L) (e := ex) (m := (ev4 gv (arO fs) Φ b.due).v) (lp := lp) (tp := tp) (k := kk) M (lkW_of g hc.1 fail).w ((ex_ok b.due g).v _ hd.2) (star_of hd.1) hN hv hlt hline r
        · cases h
      · cases h
    · cases h
/-- the looks part as a whole -/
theorem sfx_ok (g : GX C k fs gn gv Φ X I E) (M : MkF X C c P) (B : IsrB X.prog X.w X.K X.mg X.base C n k xI fI nr ms) (hr : RoomG (k + 3) X.A) (h : chkSfx (fnO fs) gn I xI jl jlook jdue b bs sts = true) :
    PSs X sts (tS (wd X C) E (mLooks jl (ev4 gv (arO fs) Φ b.due).v (bs.map fun b => (ev4 gv (arO fs) Φ b.due).v) (chkLk n ms nr (lkBare gv (arO fs) Φ (b :: bs))))) := by
  cases sts with
  | nil => cases h
  | cons st sts =>
    unfold chkSfx at h
    simp only [Bool.and_eq_true, decide_eq_true_eq] at h
    obtain ⟨⟨⟨⟨⟨⟨⟨⟨⟨⟨⟨⟨h1, h2⟩, h3⟩, h4⟩, h5⟩, h6⟩, h7⟩, h8⟩, h9⟩, h10⟩, h11⟩, h12⟩, h13⟩ := h
    split at h13
    · rename_i L ex hs
      simp only [Bool.and_eq_true] at h13
      obtain ⟨⟨k1, k2⟩, k3⟩ := h13
      obtain ⟨Ls, e2⟩ := Option.isSome_iff_exists.mp k3
      obtain ⟨p1, lp, tp, pl, pos, kk, rfl⟩ := lkStmt0_eq hs
      have hd := k2
      unfold chkDue at hd
      rw [Bool.and_eq_true] at hd
      have hN : X.N[jl]? = some ("looks" : Str) := by rw [g.n]; exact h1
      have hv : Vis X.env.scope ("looks" : Str) := by rw [g.sc]; exact vis_of h2
      have hl := app_len e2
      have hb : (b :: bs).length = (L :: Ls).length := by simp [hl]
      have hT : ∀ T ∈ lkAll gv (arO fs) Φ (b :: bs) (L :: Ls), LkW X T ∧ LamB X.prog X.w X.K X.mg X.base C k (X.env.qual ++ "<lambda>") T.L T.fr T.m := fun T hT => by
        rcases List.mem_cons.mp hT with rfl | hT
        · exact ⟨lkW_of g k1 _, lamB_of g k1⟩
        · exact app_all g e2 T hT
      have hjs : ∀ T ∈ lkAll gv (arO fs) Φ (b :: bs) (L :: Ls), jl ∉ T.js := app_js (by simp only [List.all_cons, Bool.and_eq_true]; exact ⟨h10, h11⟩)
      have r := app_ok g M B hr hT hN hv h5 h6 h7 ⟨h8, h9⟩ hjs (by rw [all_len hb]; simp; omega) e2 (done := [lkOf gv (arO fs) Φ b L]) rfl
      have q := pss_look0 (L := L) (e := ex) (m := (ev4 gv (arO fs) Φ b.due).v) (px := p1) (pl := pl) (lp := lp) (tp := tp) (k := kk) (pos := pos) M (lkW_of g k1 fail).w ((ex_ok b.due g).v _ hd.2) (star_of hd.1) (by rw [g.n]; exact g.nd) hN (by rw [g.sc]; exact loc_of h3) (.inr (by rw [g.sc]; exact of_decide_eq_true h4)) r
      refine pssW' q fun D σ H ⟨F, μ, S, R, p⟩ => ?_
      unfold PostS mLooks at p
      by_cases hj : jl < S.σ.length
      case neg => rw [if_neg hj] at p; exact p.elim
      rw [if_pos hj] at p
      cases e3 : Vi.bind (ev4 gv (arO fs) Φ b.due).v esc S with
      | fail => rw [e3] at p; exact p.elim
      | exc c d S1 => rw [e3] at p; exact p.elim
      | ok d S' =>
        rw [e3] at p
        dsimp only at p
        cases e4 : dues (bs.map fun b => (ev4 gv (arO fs) Φ b.due).v) { S' with σ := S'.σ.set jl .e } with
        | fail => rw [e4] at p; exact p.elim
        | exc c d S1 => rw [e4] at p; exact p.elim
        | ok rest S1 =>
          rw [e4] at p
          dsimp only at p
          by_cases hc : chkLk n ms nr (lkBare gv (arO fs) Φ (b :: bs)) (d :: rest) S1 = true
          case neg => rw [if_neg hc] at p; exact p.elim
          rw [if_pos hc] at p
          exact ⟨F, μ, S, d, S', rest, S1, R, hj, e3, e4, by rw [lk_bare hb]; exact hc, fun F' μ' σ' H' t => p F' μ' σ' (.bl true) H' t (show DR _ _ _ _ _ from .bl true)⟩
    · cases h13
end
end Vi
/-! text Vc14 -/
set_option Elab.async false
set_option linter.all false
set_option maxRecDepth 100000
set_option maxHeartbeats 2000000
/-! Vc, part 14: a def whose end is a list of looks, in a whole program. -/
namespace Vi
open PySem PySem.Spec PyProof.Rows L2 NdefX LamX

theorem seq_skip {m : MS} : mSeq mSkip m = m := rfl
theorem seq_seq {a b c : MS} : mSeq (mSeq a b) c = mSeq a (mSeq b c) := by
  funext S
  unfold mSeq
  cases a S <;> rfl
/-- such a def -/
structure RtD where
  pre : Sms
  p : Nat
  b : LkB
  bs : List LkB
  jl : Nat
  jlook : Nat
  jdue : Nat
  isr : Sms
  isrN : List Str
def rtM (gv : Nat → D) (ar : Nat → Nat) (R : RtD) (Φ : Nat → Cf) : MS := mSeq (runs gv ar Φ R.pre) (mLooks R.jl (ev4 gv ar Φ R.b.due).v (R.bs.map fun b => (ev4 gv ar Φ b.due).v) (chkLk (xcN gv) (runs gv ar Φ R.isr) (R.isrN.length - 3) (lkBare gv ar Φ (R.b :: R.bs))))
def rtChk (fnm gn : Nat → Option Str) (I : Inf) (xI : Str) (R : RtD) (body : List Stmt) : Bool := chkSs fnm gn R.pre I (body.take R.p) && chkSfx fnm gn I xI R.jl R.jlook R.jdue R.b R.bs (body.drop R.p)
section
variable {C : Cc} {k n nr : Nat} {fs : List FI} {gn : Nat → Option Str} {gv : Nat → D} {Φ : Nat → Cf} {X : Cx} {I : Inf} {E : XK} {xI : Str} {fI c P : Addr} {R : RtD}
theorem pss_pre {m : MS} {rest : List Stmt} (hr : PSs X rest (tS (wd X C) E m)) (g : SX C k fs gn gv Φ X I E) : ∀ (a : Sms) (sts : List Stmt), chkSs (fnO fs) gn a I sts = true → PSs X (sts ++ rest) (tS (wd X C) E (mSeq (runs gv (arO fs) Φ a) m))
  | .nil, sts, h => by
    cases sts with
    | nil => exact hr
    | cons s st => cases h
  | .cons s r, sts, h => by
    cases sts with
    | nil => cases h
    | cons x st =>
      simp only [chkSs, Bool.and_eq_true] at h
      show PSs X (x :: (st ++ rest)) (tS (wd X C) E (mSeq (mSeq (run gv (arO fs) Φ s) (runs gv (arO fs) Φ r)) m))
      rw [seq_seq]
      exact ss_cons (sm_ok s g h.1) (pss_pre hr g r st h.2)
theorem right_ok (g : SX C k fs gn gv Φ X I E) (M : MkF X C c P) (B : IsrB X.prog X.w X.K X.mg X.base C (xcN gv) k xI fI (R.isrN.length - 3) (runs gv (arO fs) Φ R.isr)) (hr : RoomG (k + 3) X.A) {body : List Stmt} (h : rtChk (fnO fs) gn I xI R body = true) : PSs X body (tS (wd X C) E (rtM gv (arO fs) R Φ)) := by
  unfold rtChk at h
  rw [Bool.and_eq_true] at h
  have q := pss_pre (sfx_ok g.g M B hr h.2) g R.pre _ h.1
  rw [List.take_append_drop] at q
  exact q
end
/-- the text of _law_is_raised -/
def isfB (xC : Str) (N : List Str) (scope : Scope) : Stmt → Bool
  | .Assign [.Name x _] (.Call (.Name y _) [.Name z _] [] _) _ => decide (x = ("caught" : Str)) && decide (y = xC) && decide (z = ("call" : Str)) && decide (N.take 3 = [("call" : Str), "due", "caught"]) && scB N ["call", "due"] scope && decide (scope.names.lookup ("call" : Str) = some .local) && decide (scope.names.lookup ("caught" : Str) = some .local) && decide (scope.names.lookup xC = some .globalImplicit) && !(xC == ("__debug__" : Str))
  | _ => false
/-- the text of _law_caught -/
def ctfB (x : Str) (scope : Scope) : List Stmt → Bool
  | [.Try [.Expr (.Call (.Name a _) [] [] _) _] [.ExceptHandler (some (.Name y _)) (some b) [.Return (some (.Name c _)) _] _] [] [] _, .Return (some (.Constant .none _ _)) _] => decide (a = ("call" : Str)) && decide (y = x) && decide (b = ("caught" : Str)) && decide (c = ("caught" : Str)) && scB ["call", "caught"] ["call"] scope && decide (scope.names.lookup ("call" : Str) = some .local) && decide (scope.names.lookup ("caught" : Str) = some .local) && decide (scope.names.lookup x = some .globalImplicit) && !(x == ("__debug__" : Str))
  | _ => false
section
variable {K : PySem.W.Frag} {mg : Str → Option Value} {C : Cc} {n : Nat} {xC x : Str} {fC : Addr} {N : List Str} {st : Stmt} {body : List Stmt} {scope : Scope}
theorem isF_of (h : isfB xC N scope st = true) (hm : mg xC = some (.ref fC)) (hk : PySem.W.keepIn K (.ref fC) = true) : IsF K mg xC fC N st scope := by
  unfold isfB at h
  split at h
  · simp only [Bool.and_eq_true, decide_eq_true_eq, Bool.not_eq_true'] at h
    obtain ⟨⟨⟨⟨⟨⟨⟨⟨rfl, rfl⟩, rfl⟩, h4⟩, h5⟩, h6⟩, h7⟩, h8⟩, h9⟩ := h
    exact ⟨⟨_, _, _, _, _, rfl⟩, ⟨N.drop 3, by rw [← List.take_append_drop 3 N, h4]; rfl⟩, scB_of h5, h6, h7, h8, h9, hm, hk⟩
  · cases h
theorem ctF_of (h : ctfB x scope body = true) (hm : mg x = some (.ref (C 0))) (he : ∀ c, c < n → PySem.W.exmOne K (.ref (C c)) (.ref (C 0)) = some true) : CtF K mg C n x body scope := by
  unfold ctfB at h
  split at h
  · simp only [Bool.and_eq_true, decide_eq_true_eq, Bool.not_eq_true'] at h
    obtain ⟨⟨⟨⟨⟨⟨⟨⟨rfl, rfl⟩, rfl⟩, rfl⟩, h5⟩, h6⟩, h7⟩, h8⟩, h9⟩ := h
    exact ⟨⟨_, _, _, _, _, _, _, _, _, _, _, rfl⟩, scB_of h5, h6, h7, h8, h9, hm, he⟩
  · cases h
end
end Vi
/-! text Vc15 -/
set_option Elab.async false
set_option linter.all false
set_option maxRecDepth 100000
set_option maxHeartbeats 2000000
/-! Vc, part 15: .. told otherwise than by its own syntax. -/
namespace Vi
open PySem PySem.Spec PyProof.Rows L2 NdefX LamX

theorem SX.gb {C : Cc} {k : Nat} {fs : List FI} {gn : Nat → Option Str} {gv : Nat → D} {Φ : Nat → Cf} {X : Cx} {I : Inf} {E : XK} (g : SX C k fs gn gv Φ X I E) : GB X.prog X.w X.K X.mg X.base C k fs gn gv Φ :=
  ⟨g.g.blt, g.g.fs, g.g.k2, g.g.xi, g.g.xv, g.g.gls, g.xr⟩
/-- the qualified name of its lambdas -/
def lamQ (d : He.DefD) : Str := (envOfC d.qual d.scope 0 0 .none).qual ++ "<lambda>"
/-- what is to be seen of the three defs: plain texts -/
def rt3 (fnm gn : Nat → Option Str) (xM : Str) (dR dC dI : He.DefD) (vR : DefV) (R : RtD) : Bool :=
  rtChk fnm gn ⟨vR.N, dR.scope, none⟩ dI.at_.1 R dR.body && (match dI.body with
    | st :: rest => isfB dC.at_.1 R.isrN dI.scope st && chkSs fnm gn R.isr ⟨R.isrN, dI.scope, none⟩ rest
    | [] => false) && ctfB xM dC.scope dC.body && !(dI.at_.1 == ("__debug__" : Str))
section
variable {P : Program} {w : World} {K : PySem.W.Frag} {mg : Str → Option Value} {base : Heap} {C : Cc} {fn : List He.DefD} {prog : List DefV} {gn : Nat → Option Str} {gv : Nat → D} {fs : List FI} {iR iC iI : Nat} {dR dC dI : He.DefD} {vR vC vI : DefV} {R : RtD} {xM : Str}
theorem fun0 (f : Fis K fn prog fs) (hc : okAll (nmO fn) gn fn prog = true) {i : Nat} {d : He.DefD} {v : DefV} (e1 : fn[i]? = some d) (e2 : prog[i]? = some v) : ∃ fd, fs[i]? = some ⟨d.at_.1, He.fAd K d.at_, fd, v.ps⟩ ∧ FunD K d.name d.qual d.params d.body d.scope [] [] (He.fAd K d.at_) fd := by
  obtain ⟨fd, q1, q2⟩ := f.at_ i _ _ e1 e2
  have ok := (okAll_at hc).2 i _ _ e1 e2
  unfold okD at ok
  simp only [Bool.and_eq_true] at ok
  have d0 : d.dfl = [] := by simpa using ok.1.1.2
  have k0 : d.kwd = [] := by simpa using ok.1.2
  have d1 : d.dvs K = [] := by unfold He.DefD.dvs; rw [d0]; rfl
  have k1 : d.kws K = [] := by unfold He.DefD.kws; rw [k0]; rfl
  rw [d1, k1] at q2
  exact ⟨fd, q1, q2⟩
theorem ext_right (f : Fis K fn prog fs) (hl : fn.length = prog.length) (hc : okAll (nmO fn) gn fn prog = true) (hb : ∀ (i : Nat) (d : He.DefD) (v : DefV), fn[i]? = some d → prog[i]? = some v → BindOk d v)
    (hg : ∀ (i : Nat) (d : He.DefD), fn[i]? = some d → mg d.at_.1 = some (.ref (He.fAd K d.at_)))
    (r1 : fn[iR]? = some dR) (r2 : prog[iR]? = some vR) (c1 : fn[iC]? = some dC) (c2 : prog[iC]? = some vC) (i1 : fn[iI]? = some dI) (i2 : prog[iI]? = some vI) (pC : vC.ps = [("call" : Str)]) (pI : vI.ps = [("call" : Str), "due"])
    (h3 : rt3 (nmO fn) gn xM dR dC dI vR R = true) (hM : mg xM = some (.ref (C 0))) (he : ∀ c, c < xcN gv → PySem.W.exmOne K (.ref (C c)) (.ref (C 0)) = some true)
    (hTB : TabB base mg (He.cT K dR.at_).1 (He.cT K dR.at_).2) (hCT : C.T = [((He.cT K dR.at_).2, lamQ dR)]) :
    ExtOk P w K mg base C fn prog gn gv (fun i => if i = iR then some (rtM gv (fun j => ((prog[j]?).map (·.ps.length)).getD 0) R) else none) fs := by
  have en : fnO fs = nmO fn := by
    funext i
    unfold fnO nmO
    by_cases hi : i < fn.length
    · obtain ⟨fd, e, _⟩ := f.at_ i fn[i] prog[i] (List.getElem?_eq_getElem hi) (List.getElem?_eq_getElem (hl ▸ hi))
      rw [e, List.getElem?_eq_getElem hi]; rfl
    · have l1 := f.len
      rw [List.getElem?_eq_none (l := fs) (by omega), List.getElem?_eq_none (l := fn) (by omega)]; rfl
  have ea : arO fs = fun j => ((prog[j]?).map (·.ps.length)).getD 0 := by
    funext i
    unfold arO
    by_cases hi : i < fn.length
    · obtain ⟨fd, e, _⟩ := f.at_ i fn[i] prog[i] (List.getElem?_eq_getElem hi) (List.getElem?_eq_getElem (hl ▸ hi))
      rw [e, List.getElem?_eq_getElem (hl ▸ hi)]; rfl
    · have l1 := f.len
      rw [List.getElem?_eq_none (l := fs) (by omega), List.getElem?_eq_none (l := prog) (by omega)]; rfl
  intro i m d v e1 e2 e3 k A outer s H E oc dV kV doc pm cdv ct an od osl lk hr sx
  have hi : i = iR := by
    by_cases h : i = iR
    · exact h
    · have e1 : (if i = iR then _ else none) = some m := e1
      rw [if_neg h] at e1; cases e1
  subst hi
  have e1 : (if i = i then some (rtM gv (fun j => ((prog[j]?).map (·.ps.length)).getD 0) R) else none) = some m := e1
  rw [if_pos rfl] at e1
  cases e1
  rw [r1] at e2
  cases e2
  rw [r2] at e3
  cases e3
  generalize (fun j => if j = i then some (rtM gv (fun j => ((prog[j]?).map (·.ps.length)).getD 0) R) else none : Xt) = ext at sx ⊢
  unfold rt3 at h3
  simp only [Bool.and_eq_true, Bool.not_eq_true'] at h3
  obtain ⟨⟨⟨h31, h32⟩, h33⟩, h34⟩ := h3
  obtain ⟨fdR, qR1, FR⟩ := fun0 f hc r1 r2
  obtain ⟨fdC, qC1, FC⟩ := fun0 f hc c1 c2
  obtain ⟨fdI, qI1, FI⟩ := fun0 f hc i1 i2
  -- the code object
  obtain ⟨oc', od', dV', kV', doc', pm', an', cdv', ct', osl', ef, lk', hcd', _, _⟩ := FR.ex
  subst ef
  rw [lk] at lk'
  have ecd : cdv = cdv' := by
    have z := Option.some.inj lk'
    have z1 := congrArg Obj.data z
    have z2 : (PySem.W.fnOf dR.name dR.qual dR.params dR.body dR.scope dV kV doc pm an cdv ct) = (PySem.W.fnOf dR.name dR.qual dR.params dR.body dR.scope dV' kV' doc' pm' an' cdv' ct') := Data.func.inj z1
    exact congrArg FuncData.code z2
  subst ecd
  have M : MkF (cxOf (L2.CX P w) P w K mg base vR.N dR.qual dR.scope (He.fAd K dR.at_) cdv A outer s H E) C (He.cT K dR.at_).1 (He.cT K dR.at_).2 := by
    refine ⟨hTB, ?_, ?_, fun p hp hP => ?_⟩
    · show cdv = _
      unfold PySem.W.codeIn at hcd'
      split at hcd'
      · rename_i c0
        have q := He.codeOf_eq (p := dR.at_) lk rfl
        show Value.ref c0 = Value.ref (He.codeOf K dR.at_)
        rw [q]
      · cases hcd'
    · rw [hCT]; exact List.mem_singleton.mpr rfl
    · rw [hCT] at hp
      rw [List.mem_singleton.mp hp]; rfl
  -- _law_caught, _law_is_raised
  obtain ⟨ocC, odC, dVC, kVC, docC, pmC, anC, cdvC, ctC, oslC, efC, lkC, hcdC, _, _⟩ := FC.ex
  obtain ⟨ocI, odI, dVI, kVI, docI, pmI, anI, cdvI, ctI, oslI, efI, lkI, hcdI, _, _⟩ := FI.ex
  have bC := FC.bindsN (ps := vC.ps) (hb iC dC vC c1 c2)
  have bI := FI.bindsN (ps := vI.ps) (hb iI dI vI i1 i2)
  rw [pC] at bC
  rw [pI] at bI
  subst efC
  subst efI
  split at h32
  · rename_i st rest eb
    rw [Bool.and_eq_true] at h32
    have B : IsrB P w K mg base C (xcN gv) (5 * k + 2) dI.at_.1 (He.fAd K dI.at_) (R.isrN.length - 3) (runs gv (arO fs) (sem gv prog ext k) R.isr) := by
      rw [eb] at lkI bI
      exact isrB_of (SX.gb sx) (isF_of h32.1 (hg iC dC c1) FC.kp) lkI hcdI bI (ctF_of h33 hM he) lkC hcdC bC (hg iI dI i1) FI.kp h34 (by rw [en]; exact h32.2)
    rw [← ea]
    exact right_ok sx M B (hr.mono (by omega)) (by rw [en]; exact h31)
  · cases h32
end
end Vi
/-! text Vc16 -/
set_option Elab.async false
set_option linter.all false
set_option maxRecDepth 100000
set_option maxHeartbeats 2000000
/-! Vc, part 16: the end of a law whose defs make lambdas. -/
namespace Vi
open PySem PySem.Spec PyProof.Rows L2 LamX
/-- the start: nothing but the script, the tables -/
structure OnlyT (cs : List (Addr × Addr)) (H : Hp) : Prop where
  only : ∀ b, H b = none ∨ b ∈ cs.map (·.2) ∨ ∃ o xs, H b = some (.frz o (.lst xs))
  tabs : ∀ p ∈ cs, H p.2 = some (.tbl #[])
theorem law_callGT {P : Program} {w : World} {K : PySem.W.Frag} {mg mb : Str → Option Value} {CX : CXT} {k : Nat} {fa a : Addr} {cs : List (Addr × Addr)} {fd : FuncData} {x : Str} {sp : Sp} {s₁ : Shared} {vs : List Value} {ns : List Int}
    (inK : K.In s₁.heap) (nsM : s₁.heap.Ns mainGlobals mg) (nsU : s₁.heap.Ns builtinsNs mb) (blts : ∀ x : Str, x ≠ "__name__" → mb x = bootBuiltins x) (nol : s₁.heap.NoLimit) (gn0 : s₁.gens = #[])
    (emT : ∀ p ∈ cs, s₁.heap.get? p.2 = some { cls := .none, data := .fields #[] }) (ofT : ∀ p ∈ cs, K.lookup p.2 = none) (hdT : ∀ p ∈ cs, PySem.W.CodeHd s₁.heap p.1 p.2)
    (bmM : ∃ (bm : Addr) (ob : Obj), mg "__builtins__" = some (.ref bm) ∧ bm ≠ builtinsNs ∧ s₁.heap.get? bm = some ob ∧ ob.cls = .type "module" ∧ ob.dict = some builtinsNs ∧ ob.data = .plain)
    (lsA : s₁.heap.get? a = some { cls := .type "list", data := .seq vs.toArray }) (intsV : IntsAre vs ns) (fewV : ns.length ≤ sizeLine) (rmG : RoomG k callerA)
    (F : ∀ base : Heap, K.In base → base.Ns mainGlobals mg → (∀ p ∈ cs, TabB base mg p.1 p.2) → FnG P w K mg base CX k fa fd [x] sp) (bnd : ∀ (s : Shared) (u : Value), BindsTo s fd ⟨[u], []⟩ [(x, u)])
    (prm : ∀ H : Hp, OnlyT cs H → SqL K H a (ns.map V.int) → sp [.ref a] H (fun v _ => v = .bl true) fun _ _ _ => False)
    (noX : ∀ H e s', CX [] H s₁ (fun _ _ _ => False) e s' → False) :
    codeAny (model P w) callerA (.call (.ref fa) ⟨[.ref a], []⟩) (fun r s' => r = .ok (.ret (.bool true)) ∧ OldK s₁.heap s'.heap ∧ s'.os = s₁.os ∧ AllBare s'.gens) s₁ := by
  have relI := vals_ints intsV
  have lnI := intsV.length
  have emA : ∀ b : Addr, b ∈ cs.map (·.2) → s₁.heap.get? b = some { cls := .none, data := .fields #[] } := fun b hb => by
    obtain ⟨p, hp, e⟩ := List.mem_map.mp hb
    rw [← e]; exact emT p hp
  have aN : a ∉ cs.map (·.2) := fun z => by
    have q := emA a z
    rw [lsA] at q
    have z' : Data.seq vs.toArray _ = Data.fields #[] := congrArg Obj.data (Option.some.inj q)
    cases z'
  have fromH : ∀ H : Hp, OnlyT cs H → SqL K H a (ns.map V.int) → HOk P w H s₁.heap → (∀ b, H b ≠ none → b = a ∨ b ∈ cs.map (·.2)) → (H a ≠ none → K.lookup a = none) →
      codeAny (model P w) callerA (.call (.ref fa) ⟨[.ref a], []⟩) (fun r s' => r = .ok (.ret (.bool true)) ∧ OldK s₁.heap s'.heap ∧ s'.os = s₁.os ∧ AllBare s'.gens) s₁ := by
    intro H onl sqS okH onA offK
    have toB : ∀ {b : Addr} {o : Obj}, s₁.heap.get? b = some o → H b = none → (hidT s₁.heap H).get? b = some o := fun e n => hidT_get e n
    have offD : ∀ {b : Addr} {o : Obj}, s₁.heap.get? b = some o → (∀ us n, o.data ≠ .seq us n) → o.data ≠ .fields #[] → H b = none := fun {b o} e n1 n2 => by
      cases q : H b with
      | none => rfl
      | some u =>
        rcases onA b (by rw [q]; simp) with rfl | e'
        · rw [lsA] at e; cases e
          exact (n1 _ _ rfl).elim
        · rw [emA b e'] at e; cases e
          exact (n2 rfl).elim
    have dicN : ∀ {b : Addr} {o : Obj} {es : Array DictEntry} {ep : Nat}, s₁.heap.get? b = some o → o.data = .dict es ep → H b = none := fun e d => offD e (fun us n z => by rw [d] at z; cases z) fun z => by rw [d] at z; cases z
    have nsB : ∀ {b : Addr} {m : Str → Option Value}, s₁.heap.Ns b m → (hidT s₁.heap H).Ns b m := fun {b m} ⟨o, es, ep, e, d, r⟩ => ⟨o, es, ep, toB e (dicN e d), d, r⟩
    have inB : K.In (hidT s₁.heap H) := fun b o e => toB (inK b o e) (by
      cases q : H b with
      | none => rfl
      | some u =>
        rcases onA b (by rw [q]; simp) with rfl | e'
        · rw [offK (by rw [q]; simp)] at e; cases e
        · obtain ⟨p, hp, ep⟩ := List.mem_map.mp e'
          rw [← ep, ofT p hp] at e; cases e)
    have modB : Mod K mg (hidT s₁.heap H) := ⟨inB, nsB nsM, ⟨mb, nsB nsU, blts⟩, let ⟨mc, h1, h2⟩ := nol; ⟨mc, nsB h1, h2⟩⟩
    have tabB : ∀ p ∈ cs, TabB (hidT s₁.heap H) mg p.1 p.2 := fun p hp => by
      have emp := emT p hp
      obtain ⟨o, us, file, tf, flags, tg, inF, text, tt, g1, g2, g3, g4, g5, g6, g7, g8, g9, g10⟩ := hdT p hp
      obtain ⟨bm, ob, m1, m2, m3, m4, m5, m6⟩ := bmM
      obtain ⟨om, es, ep, em, dm, _⟩ := nsM
      refine ⟨⟨o, us, file, tf, flags, tg, inF, text, tt, toB g1 (offD g1 (fun us n z => by rw [g3] at z; cases z) fun z => ?_), g2, g3, g4, g5, g6, g7, g8, g9, g10⟩, ⟨bm, ob, m1, m2, fun q => ?_, fun q => ?_, toB m3 (offD m3 (fun us n z => by rw [m6] at z; cases z) fun z => by rw [m6] at z; cases z), m4, m5, m6⟩, fun z => ?_⟩
      · rw [g3] at z; cases z; simp at g4
      · rw [q, em] at m3; cases m3; rw [dm] at m6; cases m6
      · rw [q, emp] at m3; cases m3; cases m6
      · rw [z, emp] at em; cases em; cases dm
    have env9 : Env0 P w K mg (hidT s₁.heap H) callerA [] s₁ H := ⟨rfl, modB, fun b o e => of_hidT e, Nat.le_of_eq (hidT_size _ _), trivial, fun b nsU => absurd (show b ∈ ([] : List Addr) from nsU) (by simp), okH, .of_eq gn0⟩
    refine codeAny_mono ((F _ inB (nsB nsM) tabB).run callerA [] s₁ H ⟨[.ref a], []⟩ [.ref a] [.ref a] _ _ rmG env9 (bnd s₁ (.ref a)) (.cons rfl .nil) (prm H onl sqS)) fun r s' h => ?_
    cases r with
    | error e => exact (noX H e s' h).elim
    | ok fl =>
      cases fl with
      | next => exact False.elim h
      | brk => exact False.elim h
      | cont => exact False.elim h
      | ret u =>
        obtain ⟨v, H', osE, brE, unE, okE, relE, q⟩ := h
        have q' : v = .bl true := q
        subst q'
        obtain rfl : u = Value.bool true := relE
        have same : ∀ b o, b ∉ cs.map (·.2) → s₁.heap.get? b = some o → s'.heap.get? b = some o := fun b o nb e => by
          cases q : H b with
          | none => exact unE.keep b o e q (by intro z; exact absurd (show b ∈ ([] : List Addr) from z) (by simp)) (by simp)
          | some u =>
            rcases onl.only b with z | z | ⟨ob, xs, z⟩
            · rw [q] at z; cases z
            · exact absurd z nb
            · have z2 := unE.frzs b ob _ z
              obtain ⟨e1, _⟩ := okH b _ z
              obtain ⟨e2, _⟩ := okE b _ z2
              rw [e] at e1; cases e1
              exact e2
        have more : ∀ p ∈ cs, ∃ us : Array Value, s'.heap.get? p.2 = some { cls := .none, data := .fields us } := fun p hp => by
          obtain ⟨us, z⟩ := unE.tbls p.2 #[] (onl.tabs p hp)
          exact ⟨_, okE p.2 _ z⟩
        refine ⟨rfl, ⟨fun b o e => ?_, fun b o e => ?_⟩, osE, brE⟩
        all_goals by_cases nb : b ∈ cs.map (·.2)
        · obtain ⟨p, hp, rfl⟩ := List.mem_map.mp nb
          obtain ⟨us, hu⟩ := more p hp
          have emp := emT p hp
          rw [emp] at e; cases e
          exact .inr (.inl ⟨((hdT p hp).tab emp).isCodeTable, rfl, #[], us, rfl, by rw [Array.empty_append]; exact hu⟩)
        · exact .inl (same b o nb e)
        · obtain ⟨p, hp, rfl⟩ := List.mem_map.mp nb
          exact ⟨_, (more p hp).choose_spec⟩
        · exact ⟨o, same b o nb e⟩
  cases hk : K.lookup a with
  | some o =>
    have e := inK a o hk
    rw [lsA] at e
    cases e
    refine fromH (fun b => if b ∈ cs.map (·.2) then some (.tbl #[]) else none) ⟨fun b => ?_, fun p hp => if_pos (List.mem_map.mpr ⟨p, hp, rfl⟩)⟩ (.inr ⟨_, vs.toArray, _, hk, rfl, rfl, rfl, by rw [List.size_toArray, lnI]; exact fewV, by simpa using relI⟩) (fun b u z => ?_) (fun b z => ?_) fun z => absurd (if_neg aN) z
    all_goals by_cases nb : b ∈ cs.map (·.2)
    · exact .inr (.inl nb)
    · exact .inl (if_neg nb)
    · have z' := (if_pos nb).symm.trans z
      cases z'
      exact emA b nb
    · have z' := (if_neg nb).symm.trans z
      cases z'
    · exact .inr nb
    · exact absurd (if_neg nb) z
  | none =>
    refine fromH (fun b => if b = a then some (.frz { cls := .type "list", data := .seq vs.toArray } (.lst (ns.map V.int))) else if b ∈ cs.map (·.2) then some (.tbl #[]) else none) ⟨fun b => ?_, fun p hp => ?_⟩ (.inl (.inr ⟨{ cls := .type "list", data := .seq vs.toArray }, if_pos rfl⟩)) (fun b u z => ?_) (fun b z => ?_) fun _ => hk
    · by_cases na : b = a
      · exact .inr (.inr ⟨_, _, if_pos na⟩)
      · by_cases nb : b ∈ cs.map (·.2)
        · exact .inr (.inl nb)
        · exact .inl ((if_neg na).trans (if_neg nb))
    · have hm : p.2 ∈ cs.map (·.2) := List.mem_map.mpr ⟨p, hp, rfl⟩
      exact (if_neg (show ¬ p.2 = a from fun z => aN (z ▸ hm))).trans (if_pos hm)
    · by_cases na : b = a
      · have z' := (if_pos na).symm.trans z
        cases z'
        subst na
        exact ⟨lsA, by rw [List.length_map]; exact fewV, vs, _, relI, lsA⟩
      · have z1 := (if_neg na).symm.trans z
        by_cases nb : b ∈ cs.map (·.2)
        · have z' := (if_pos nb).symm.trans z1
          cases z'
          exact emA b nb
        · have z' := (if_neg nb).symm.trans z1
          cases z'
    · by_cases na : b = a
      · exact .inl na
      · by_cases nb : b ∈ cs.map (·.2)
        · exact .inr nb
        · exact absurd ((if_neg na).trans (if_neg nb)) z
theorem walk_GT {l : PySem.W.OpenLaw} {n k : Nat} {q : Program} {loose : List Str} {XP : (Str → Option Value) → Heap → Prop} {YP : World → Heap → Prop} {d : DefRec} {CX : World → CXT} {x : Str}
    (hn : l.most = some n) (hn2 : n ≤ sizeLine) (hdf : d.params.defaults = []) (r : RoomG k callerA)
    (F : ∀ (w : World) (mg : Str → Option Value) (fa : Addr) (h : Heap), YP w h → h.Ns mainGlobals mg → mg d.name = some (.ref fa) →
      ∃ (K : PySem.W.Frag) (fd : FuncData) (cs : List (Addr × Addr)) (sp : Sp), K.In h ∧ (∀ p ∈ cs, h.get? p.2 = some { cls := .none, data := .fields #[] }) ∧ (∀ p ∈ cs, K.lookup p.2 = none) ∧ (∀ p ∈ cs, PySem.W.CodeHd h p.1 p.2) ∧ (∀ (s : Shared) (u : Value), BindsTo s fd ⟨[u], []⟩ [(x, u)]) ∧
        (∀ (H : Hp) (a : Addr) (ns : List Int), ns.length ≤ n → (∀ z ∈ ns, Builtin.Int.intBits z ≤ 1048576) → OnlyT cs H → SqL K H a (ns.map V.int) → sp [.ref a] H (fun v _ => v = .bl true) fun _ _ _ => False) ∧
        ∀ base : Heap, K.In base → base.Ns mainGlobals mg → (∀ p ∈ cs, TabB base mg p.1 p.2) → FnG l.prog w K mg base (CX w) k fa fd [x] sp)
    (noX : ∀ (w : World) (H : Hp) (s : Shared) (e : Value) (s' : Shared), CX w [] H s (fun _ _ _ => False) e s' → False) :
    PySem.W.WalkO q loose XP YP l.row.toRowW d [] (fun f vs => PySem.call f vs) :=
  Att.attach_callB hn hdf fun w s₀ s₁ mg mb fa o pm cd doc a vs ns G Y ho hd hcd hmg hobj hints hlen hbits hg =>
    let ⟨K, fd, cs, sp, inK, emT, ofT, hdT, bnd, prm, hF⟩ := F w mg fa _ Y G.T.g hmg
    law_callGT inK G.T.g G.T.b G.T.builtins G.T.nolimit hg emT ofT hdT G.T.bmain hobj hints (Nat.le_trans hlen hn2) r hF bnd (fun H h1 h2 => prm H a ns hlen hbits h1 h2) fun H e s' => noX w H s₁ e s'
end Vi
/-! text Vc17 -/
set_option Elab.async false
set_option linter.all false
set_option maxRecDepth 100000
set_option maxHeartbeats 2000000
/-! Vc, part 17: the error classes at the head, seen by a Bool. -/
namespace Vi
open PySem PySem.Spec PyProof.Rows L2 NdefX
theorem oexB_ok {K : PySem.W.Frag} {C : Addr} (h : oexB K C = true) : OexC K C := by
  unfold oexB at h
  split at h
  · rename_i t dd cd sl ho
    simp only [Bool.and_eq_true] at h
    obtain ⟨⟨⟨⟨h1, h2⟩, h3⟩, h4⟩, h5⟩ := h
    refine ⟨?_, of_decide_eq_true h2, of_decide_eq_true h3, of_decide_eq_true h4, h5⟩
    split at h1
    · rename_i C' bm k0 k1 k2 k3 n k5 hm hs
      simp only [Bool.and_eq_true, decide_eq_true_eq, Bool.not_eq_true'] at h1
      obtain ⟨⟨⟨⟨⟨rfl, rfl⟩, rfl⟩, h4⟩, h5⟩, h6⟩ := h1
      obtain ⟨nm, bs, mro, ns, q, hd, sn, sub, ab, col, hdel⟩ := cd
      dsimp only at hm h4 h5
      subst hm h4 h5
      have es : sl = #[k0, k1, k2, k3, some (.builtin "ValueError.__new__"), k5] := by
        rw [← hs]
      subst es
      exact ⟨nm, q, ns, bs, bm, sn, sub, ab, col, dd, k0, k1, k2, k3, k5, ho, h6⟩
    · cases h1
  · cases h
theorem xcB_ok {K : PySem.W.Frag} {C D fI : Addr} (h : xcB K C D fI = true) : XcF K C D fI := by
  unfold xcB at h
  simp only [Bool.and_eq_true] at h
  obtain ⟨⟨⟨⟨⟨⟨h1, h2⟩, h3⟩, h4⟩, h5⟩, h6⟩, h7⟩ := h
  exact ⟨oexB_ok h1, of_decide_eq_true h2, of_decide_eq_true h3, of_decide_eq_true h4, of_decide_eq_true h5, of_decide_eq_true h6, of_decide_eq_true h7⟩
theorem exccB_ok {K : PySem.W.Frag} {D : Addr} (h : exccB K D = true) : ExcC K D := by
  unfold exccB at h
  simp only [Bool.and_eq_true] at h
  obtain ⟨⟨⟨⟨⟨⟨⟨h1, h2⟩, h3⟩, h4⟩, h5⟩, h6⟩, h7⟩, h8⟩ := h
  exact ⟨of_decide_eq_true h1, of_decide_eq_true h2, of_decide_eq_true h3, h4, of_decide_eq_true h5, of_decide_eq_true h6, of_decide_eq_true h7, of_decide_eq_true h8⟩
theorem iniB_ok {P : Program} {w : World} {K : PySem.W.Frag} {mg : Str → Option Value} {base : Heap} {file : Str} {fI D : Addr} (h : iniB K file fI D = true) (hf : file = P.main.file) (top : (P.main.scope.names.lookup ("super" : Str)).isSome = false) (sup : mg "super" = none) :
    ∃ fd, FnOk P w K mg base (L2.CX P w) 1 fI fd ["self", "value"] (spI K D fI) ∧ Binds K fd ["self", "value"] [] := by
  unfold iniB at h
  split at h
  · rename_i oc od name qual a1 n1 q1 a2 n2 q2 su p0 p1 i2 p2 v3 p3 p4 p5 s6 p6 v7 p7 v8 p8 p9 scope gl cn cc doc pm c ctv bl sl lk
    simp only [Bool.and_eq_true, decide_eq_true_eq] at h
    obtain ⟨⟨⟨⟨⟨⟨⟨⟨⟨⟨⟨⟨⟨⟨⟨⟨⟨⟨rfl, rfl⟩, rfl⟩, rfl⟩, rfl⟩, rfl⟩, h7⟩, rfl⟩, rfl⟩, rfl⟩, rfl⟩, rfl⟩, h13⟩, h14⟩, h15⟩, h16⟩, h17⟩, h18⟩, h19⟩ := h
    let F : NF := ⟨name, qual, ⟨[], [⟨"self", n1, q1⟩, ⟨"value", n2, q2⟩], none, [], [], none, []⟩, [.Expr (.Call (.Attribute (.Call (.Name "super" p0) [] [] p1) "__init__" p2) [.Name "value" p3] [] p4) p5, .Assign [.Attribute (.Name "self" p6) "value" p7] (.Name "value" p8) p9], scope, [("__class__", cc)], c⟩
    have Z : IniF P K mg F fI D cc := by
      refine ⟨rfl, ⟨p0, p1, p2, p3, p4, p5, p6, p7, p8, p9, rfl, h7⟩, h13, nscope_by h14, h15, ⟨_, rfl, rfl⟩, ?_, ?_, top, sup, Option.isSome_iff_exists.mp h18, of_decide_eq_true h19⟩
      · split at h16
        · rename_i ccl cdd vs ccs e1
          unfold fileB at h16
          split at h16
          · rename_i f tf e2
            exact ⟨_, _, _, _, _, _, e1, e2, by rw [← hf]; exact h16⟩
          · cases h16
        · cases h16
      · split at h17
        · rename_i cl cld D' csl e1
          obtain rfl : D' = D := of_decide_eq_true h17
          exact ⟨_, _, _, e1⟩
        · cases h17
    refine ⟨F.fd doc pm ctv, ini_ok Z lk, .all fun us hl => ?_⟩
    match us, hl with
    | [u1, u2], _ => rfl
  · cases h
structure ExF (P : Program) (w : World) (K : PySem.W.Frag) (mg : Str → Option Value) (base : Heap) (C : Cc) (n : Nat) : Prop where
  xi : XisF K C n
  xv : XvF K C n
  xr : ∃ D fI fd, FnOk P w K mg base (L2.CX P w) 1 fI fd ["self", "value"] (spI K D fI) ∧ Binds K fd ["self", "value"] [] ∧ ∀ c, c < n → XcF K (C c) D fI
  ex : ∀ c, c < n → PySem.W.exmOne K (.ref (C c)) (.ref (C 0)) = some true
theorem exK_ok {P : Program} {w : World} {K : PySem.W.Frag} {mg : Str → Option Value} {base : Heap} {C : Cc} {names : List Str} {file : Str} (h : exK names file K = true) (hf : file = P.main.file) (top : (P.main.scope.names.lookup ("super" : Str)).isSome = false) (sup : mg "super" = none) (hC : ∀ c, c < names.length → C c = clA names K c) :
    ExF P w K mg base C names.length := by
  unfold exK at h
  dsimp only at h
  split at h
  · cases h
  · rename_i D r er
    simp only [Bool.and_eq_true] at h
    obtain ⟨⟨h1, h2⟩, h3⟩ := h
    have at_ : ∀ c, c < names.length → C c ∈ names.map (He.ga K) ∧ xcB K (C c) D (He.ma K D "__init__") = true ∧ exccB K (C c) = true ∧ xfB K (C c) = true ∧ yes (PySem.W.exmOne K (.ref (C c)) (.ref D)) = true ∧ PySem.W.kitOne K (.type "NoneType") (.ref (C c)) = some false := fun c hc => by
      have hm : C c ∈ names.map (He.ga K) := by
        rw [hC c hc]
        unfold clA
        rw [List.getElem?_eq_getElem hc]
        exact List.mem_map.mpr ⟨_, List.getElem_mem hc, rfl⟩
      have z := (List.all_eq_true.mp h2) _ hm
      simp only [Bool.and_eq_true] at z
      obtain ⟨⟨⟨⟨z1, z2⟩, z3⟩, z4⟩, z5⟩ := z
      exact ⟨hm, z1, z2, z3, z4, of_decide_eq_true z5⟩
    have hD : 0 < names.length → C 0 = D := fun h0 => by
      rw [hC 0 h0]
      unfold clA
      cases names with
      | nil => simp at h0
      | cons x xs =>
        have : He.ga K x :: xs.map (He.ga K) = D :: r := er
        cases this; rfl
    have hl : (D :: r).length = names.length := by rw [← er, List.length_map]
    obtain ⟨fd, f1, f2⟩ := iniB_ok (w := w) (base := base) h1 hf top sup
    refine ⟨⟨fun c hc => exccB_ok (at_ c hc).2.2.1, fun c k hc hk => ?_, fun k hk => (at_ k hk).2.2.2.2.2⟩, ⟨fun c hc => xfB_ok (at_ c hc).2.2.2.1, fun c hc => (xcB_ok (at_ c hc).2.1).val⟩, ⟨D, _, fd, f1, f2, fun c hc => xcB_ok (at_ c hc).2.1⟩, fun c hc => ?_⟩
    · have z := (List.all_eq_true.mp h3) c (List.mem_range.mpr (by rw [List.length_map]; exact hc))
      have z2 := (List.all_eq_true.mp z) k (List.mem_range.mpr (by rw [List.length_map]; exact hk))
      rw [hC c hc, hC k hk]
      exact of_decide_eq_true z2
    · rw [hD (by omega)]
      exact of_decide_eq_true (at_ c hc).2.2.2.2.1
end Vi
/-! text Vc18 -/
set_option Elab.async false
set_option linter.all false
set_option maxRecDepth 100000
set_option maxHeartbeats 2000000
/-! Vc, part 18: a Hook that looks at the statics, too (super() asks them). -/
namespace Vi
open PySem PySem.Spec PyProof.Rows L2 He
theorem noLst_ok {K : PySem.W.Frag} (h : noLst K = true) {a : Addr} {o : Obj} (e : K.lookup a = some o) : o.cls ≠ .type "list" := fun z => by
  have q := List.all_eq_true.mp h _ (lookup_mem e)
  dsimp only at q
  rw [z] at q
  cases q
end Vi
/-! text Vc19 -/
set_option Elab.async false
set_option linter.all false
set_option maxRecDepth 100000
set_option maxHeartbeats 2000000
/-! Vc, part 19: the start of a law. -/
namespace Vi
open PySem PySem.Spec PyProof.Rows L2
theorem ints_dr {W : Wd} {F : Hp} {μ : List Addr} : ∀ ns : List Int, DRs W F μ (ns.map D.int) (ns.map V.int)
  | [] => .nil
  | n :: ns => .cons (.int n) (ints_dr ns)
theorem law_sp {P : Program} {w : World} {K : PySem.W.Frag} {C : Cc} {cs : List (Addr × Addr)} {H : Hp} {a : Addr} {ns : List Int} {cf : Cf} {h' : List D} (onl : OnlyT cs H) (hT : ∀ p ∈ C.T, p.1 ∈ cs.map (·.2)) (hK : noLst K = true) (hS : SqL K H a (ns.map V.int)) (hc : cf [.lst (ns.map .int)] [] = .ok (.bl true) false h') :
    spF ⟨P, w, K, C⟩ 1 cf [.ref a] H (fun v _ => v = .bl true) fun _ _ _ => False := by
  have hR : Rd H a (.lst (ns.map V.int)) := by
    rcases hS with h | ⟨o, its, n, e, z, _⟩
    · exact h
    · exact absurd z (noLst_ok hK e)
  have nT : ∀ p ∈ C.T, p.1 ≠ a := fun p hp z => by
    obtain ⟨q, hq, e⟩ := List.mem_map.mp (hT p hp)
    have t := onl.tabs q hq
    rw [e, z] at t
    rcases hR with h | ⟨o, h⟩
    · rw [t] at h; cases h
    · rw [t] at h; cases h
  have fa : (fun b => if b = a then H b else none : Hp) a = H a := if_pos rfl
  have R : Rel ⟨P, w, K, C⟩ (fun b => if b = a then H b else none) [] (S0 []) [] H := by
    refine ⟨rfl, fun b u e => ?_, fun i d e => by simp at e, fun i d e => by simp at e, fun i j d e b h1 => by simp at h1, rfl, fun j d b h1 => by simp at h1, List.nodup_nil, fun p hp => ?_⟩
    · by_cases hb : b = a
      · have e' : (if b = a then H b else none) = some u := e
        rw [if_pos hb] at e'; exact e'
      · have e' : (if b = a then H b else none) = some u := e
        rw [if_neg hb] at e'; cases e'
    · obtain ⟨q, hq, e⟩ := List.mem_map.mp (hT p hp)
      have t := onl.tabs q hq
      rw [e] at t
      exact ⟨if_neg (nT p hp), #[], t, trivial, fun pos cv h => by cases h⟩
  refine ⟨rfl, _, [], [.lst (ns.map .int)], [], R, .cons (.lst (vs := ns.map V.int) ?_ (ints_dr ns)) .nil, ?_⟩
  · rcases hR with h | ⟨o, h⟩
    · exact .inl (fa.trans h)
    · exact .inr ⟨o, fa.trans h⟩
  · refine Post.okE (S' := S0 h') (a := .v (.bl true)) ?_ fun F' μ' b H' t n r => ?_
    · unfold mCallC
      rw [show cf [.lst (ns.map .int)] (S0 []).h = .ok (.bl true) false h' from hc]
      rfl
    · cases r
      rfl
end Vi
/-! text Vc20 -/
set_option Elab.async false
set_option linter.all false
set_option maxRecDepth 100000
set_option maxHeartbeats 2000000
/-! Vc, part 20: a law of looks as a whole. -/
namespace Vi
open PySem PySem.Spec PyProof.Rows L2 LamX
def gvOf (clN : List Str) (gnL : List (Str × D)) (i : Nat) : D := if i = 4096 then .int clN.length else match gnL[i]? with
  | some p => p.2
  | none => .non
def gnOf (gnL : List (Str × D)) (i : Nat) : Option Str := (gnL[i]?).map (·.1)
def gnB (clN : List Str) (gnL : List (Str × D)) : Bool := decide (gnL.length ≤ 4096) && gnL.all fun p => match p.2 with
  | .int _ => true
  | .str _ => true
  | .cls c => decide (clN[c]? = some p.1)
  | _ => false
/-- plain parameters, their names -/
def bindB (ps : List Str) (d : He.DefD) : Bool := match d.params with
  | ⟨[], args, none, [], [], none, []⟩ => decide (args.map (·.arg) = ps)
  | _ => false
theorem bindB_ok {ps : List Str} {d : He.DefD} (h : bindB ps d = true) : ∃ args, d.params = ⟨[], args, none, [], [], none, []⟩ ∧ args.map (·.arg) = ps := by
  unfold bindB at h
  split at h
  · rename_i args e
    exact ⟨args, e, of_decide_eq_true h⟩
  · cases h
/-- each def is a global of its own name -/
def atAll (fn : List He.DefD) : Bool := fn.all fun d => decide (d.at_ = (d.name, none))
section
variable {fn : List He.DefD} {prog : List DefV} {clN : List Str} {gnL : List (Str × D)} {iR iC iI iL k n : Nat} {dR dC dI dL : He.DefD} {vR vC vI vL : DefV} {R : RtD} {file : Str}
theorem walk_vi {l : PySem.W.OpenLaw} {q : Program} {loose : List Str} {XP : (Str → Option Value) → Heap → Prop} {d : DefRec}
    (hn : l.most = some n) (hn2 : n ≤ sizeLine) (hdf : d.params.defaults = []) (hr : RoomG (5 * k + 2) callerA) (hdn : d.name = dL.name)
    (hl : fn.length = prog.length) (hc : okAll (nmO fn) (gnOf gnL) fn prog = true) (hb : ∀ (i : Nat) (d : He.DefD) (v : DefV), fn[i]? = some d → prog[i]? = some v → BindOk d v) (ha : atAll fn = true) (hg : gnB clN gnL = true) (hf : file = l.prog.main.file) (top : (l.prog.main.scope.names.lookup ("super" : Str)).isSome = false) (hm : clN.head? = some ("MillError" : Str))
    (r1 : fn[iR]? = some dR) (r2 : prog[iR]? = some vR) (c1 : fn[iC]? = some dC) (c2 : prog[iC]? = some vC) (i1 : fn[iI]? = some dI) (i2 : prog[iI]? = some vI) (l1 : fn[iL]? = some dL) (l2 : prog[iL]? = some vL) (pC : vC.ps = [("call" : Str)]) (pI : vI.ps = [("call" : Str), "due"]) (pL : vL.ps = [("script" : Str)])
    (h3 : rt3 (nmO fn) (gnOf gnL) "MillError" dR dC dI vR R = true)
    (hD : ∀ ns : List Int, ns.length ≤ n → (∀ z ∈ ns, Builtin.Int.intBits z ≤ 1048576) → ∃ h', sem (gvOf clN gnL) prog (fun i => if i = iR then some (rtM (gvOf clN gnL) (fun j => ((prog[j]?).map (·.ps.length)).getD 0) R) else none) k iL [.lst (ns.map .int)] [] = .ok (.bl true) false h') :
    PySem.W.WalkO q loose XP (hookY 4 (faOf fn clN gnL) fn [dR.at_] (exL clN file)).says l.row.toRowW d [] (fun f vs => PySem.call f vs) := by
  refine walk_GT (CX := fun w => L2.CX l.prog w) (x := "script") (k := 5 * k + 2) hn hn2 hdf hr (fun w mg fa h Y G hmg => ?_) fun w H s e s' z => ?_
  · obtain ⟨K, KX, c⟩ := Y
    have cd := c.t.d
    have fact : ∀ f, f ∈ faOf fn clN gnL → f.ok K = true := fun f hf => cd.facts hf
    have mem1 : ∀ {f : He.Fa}, f ∈ (fn.map fun d => He.Fa.glo d.name) → f ∈ faOf fn clN gnL := fun h => List.mem_append_left _ h
    have mem2 : ∀ {f : He.Fa}, f ∈ clN.map He.Fa.glo → f ∈ faOf fn clN gnL := fun h => List.mem_append_right _ (List.mem_append_left _ h)
    have mem3 : ∀ {f : He.Fa}, f ∈ (("super" : Str) :: bltNames).map He.Fa.free → f ∈ faOf fn clN gnL := fun h => List.mem_append_right _ (List.mem_append_right _ (List.mem_append_left _ h))
    have mem4 : ∀ {f : He.Fa}, f ∈ gnL.filterMap faG → f ∈ faOf fn clN gnL := fun h => List.mem_append_right _ (List.mem_append_right _ (List.mem_append_right _ h))
    have atD : ∀ d ∈ fn, d.at_ = (d.name, none) := fun d hd => of_decide_eq_true (List.all_eq_true.mp ha d hd)
    have hgl : ∀ (i : Nat) (d : He.DefD), fn[i]? = some d → mg d.at_.1 = some (.ref (He.fAd K d.at_)) := fun i d e => by
      have hd := List.mem_of_getElem? e
      have z := He.glo_ok KX G (fact _ (mem1 (List.mem_map.mpr ⟨d, hd, rfl⟩)))
      rw [atD d hd]; exact z
    have blt : ∀ b ∈ bltNames, mg b = none := fun b hb => He.free_ok KX G (fact _ (mem3 (List.mem_map.mpr ⟨b, List.mem_cons_of_mem _ hb, rfl⟩)))
    have sup : mg "super" = none := He.free_ok KX G (fact _ (mem3 (List.mem_map.mpr ⟨_, List.mem_cons_self, rfl⟩)))
    have xn : xcN (gvOf clN gnL) = clN.length := by unfold xcN gvOf; simp
    have hex := c.more
    unfold exL at hex
    rw [Bool.and_eq_true] at hex
    have hcl : ∀ c x, clN[c]? = some x → mg x = some (.ref (clA clN K c)) := fun c x e => by
      have z := He.glo_ok KX G (fact _ (mem2 (List.mem_map.mpr ⟨x, List.mem_of_getElem? e, rfl⟩)))
      unfold clA
      rw [e]; exact z
    unfold gnB at hg
    rw [Bool.and_eq_true, decide_eq_true_eq] at hg
    have gls : ∀ (W : Cc), (∀ c, W c = clA clN K c) → ∀ i x, gnOf gnL i = some x → ∃ u v, mg x = some u ∧ RelV v u ∧ ∀ F μ, DR ⟨l.prog, w, K, W⟩ F μ (gvOf clN gnL i) v := fun W hW i x e => by
      unfold gnOf at e
      cases e1 : gnL[i]? with
      | none => rw [e1] at e; cases e
      | some p =>
        rw [e1] at e
        cases e
        have hi : i < gnL.length := (List.getElem?_eq_some_iff.mp e1).1
        have ev : gvOf clN gnL i = p.2 := by unfold gvOf; rw [if_neg (by omega), e1]
        have hp := List.mem_of_getElem? e1
        have z := List.all_eq_true.mp hg.2 p hp
        rw [ev]
        obtain ⟨x, d⟩ := p
        cases d with
        | int j =>
          obtain ⟨t, z2⟩ := He.int_ok KX G (fact _ (mem4 (List.mem_filterMap.mpr ⟨_, hp, rfl⟩)))
          exact ⟨_, .int j, z2, ⟨t, rfl⟩, fun F μ => .int j⟩
        | str y =>
          obtain ⟨t, z2⟩ := He.str_ok KX G (fact _ (mem4 (List.mem_filterMap.mpr ⟨_, hp, rfl⟩)))
          exact ⟨_, .str y, z2, ⟨t, rfl⟩, fun F μ => .str y⟩
        | cls j =>
          have z2 := hcl j x (of_decide_eq_true z)
          exact ⟨_, .ref (clA clN K j), z2, rfl, fun F μ => by rw [← hW j]; exact .cls j⟩
        | _ => cases z
    obtain ⟨fs, f⟩ := fis_of (fn := fn) cd 0 fn prog hl (fun i d e => by rw [Nat.zero_add]; exact e)
    obtain ⟨fdL, qL, FL⟩ := fun0 f hc l1 l2
    have eL : fa = He.fAd K dL.at_ := by
      have z := hgl iL dL l1
      rw [atD dL (List.mem_of_getElem? l1)] at z ⊢
      rw [hdn] at hmg
      exact Value.ref.inj (Option.some.inj (hmg.symm.trans z))
    subst eL
    have bL := FL.bindsN (ps := vL.ps) (hb iL dL vL l1 l2)
    rw [pL] at bL
    obtain ⟨C, hC1, hC2⟩ : ∃ C : Cc, C.at_ = clA clN K ∧ C.T = [((He.cT K dR.at_).2, lamQ dR)] := ⟨⟨_, _⟩, rfl, rfl⟩
    refine ⟨K, fdL, [He.cT K dR.at_], spF ⟨l.prog, w, K, C⟩ 1 (sem (gvOf clN gnL) prog (fun i => if i = iR then some (rtM (gvOf clN gnL) (fun j => ((prog[j]?).map (·.ps.length)).getD 0) R) else none) k iL), KX, fun p hp => ?_, fun p hp => ?_, fun p hp => ?_, fun s u => ?_, fun H a ns hns hbits onl hS => ?_, fun base inB nsB tab => ?_⟩
    · rw [List.mem_singleton.mp hp]; exact c.empty _ List.mem_cons_self
    · rw [List.mem_singleton.mp hp]; exact c.out _ List.mem_cons_self
    · rw [List.mem_singleton.mp hp]; exact PySem.W.codeHd_of_K KX (c.hd _ List.mem_cons_self)
    · have bA := FL.bindsA (ps := vL.ps) (hb iL dL vL l1 l2)
      rw [pL] at bA
      exact bA s [u] rfl
    · obtain ⟨h', e⟩ := hD ns hns hbits
      exact law_sp onl (fun p hp => by
        rw [hC2] at hp
        rw [List.mem_singleton.mp hp]; exact List.mem_singleton.mpr rfl) (Bool.and_eq_true_iff.mp c.more).2 hS e
    · have X : ExF l.prog w K mg base C clN.length := exK_ok hex.1 hf top sup fun c _ => by rw [hC1]
      have x0 : mg "MillError" = some (.ref (C 0)) := by
        rw [hC1]
        refine hcl 0 _ ?_
        rw [← hm]
        cases clN <;> rfl
      have ext := ext_right (P := l.prog) (w := w) (K := K) (mg := mg) (base := base) (C := C) (gv := gvOf clN gnL) f hl hc hb hgl r1 r2 c1 c2 i1 i2 pC pI h3 x0 (by rw [xn]; exact X.ex) (tab _ List.mem_cons_self) hC2
      have pk := prog_ok f hl hc hb hgl blt (gls C fun c => by rw [hC1]) (by rw [xn]; exact X.xi) (by rw [xn]; exact X.xv) (fun _ => by rw [xn]; exact X.xr) ext k iL _ qL
      rw [pL] at pk
      exact pk
  · obtain ⟨_, _, _, _, _, _, _, _, _, _, _, _, z⟩ := z
    exact z
end
end Vi
/-! text Pk86 -/
set_option Elab.async false
set_option linter.all false
set_option maxRecDepth 100000
namespace Vi
open PySem PySem.Spec PyProof.Rows L2
namespace K86
/-- is_integer -/
def v0 : DefV := ⟨["value"], ["value"], (.cons (.ret (.and (.cons (.bi .isi (.cons (.var 0) (.cons (.ty "int") .nil))) (.cons (.not (.bi .isi (.cons (.var 0) (.cons (.ty "bool") .nil)))) .nil)))) .nil)⟩
/-- is_between -/
def v1 : DefV := ⟨["value", "low", "high"], ["value", "low", "high"], (.cons (.ret (.and (.cons (.call 0 (.cons (.var 0) .nil)) (.cons (.chn .le .le (.var 1) (.var 0) (.var 2)) .nil)))) .nil)⟩
/-- are_between -/
def v2 : DefV := ⟨["value", "low", "high"], ["value", "low", "high", "one"], (.cons (.ret (.and (.cons (.bi .isi (.cons (.var 0) (.cons (.ty "tuple") .nil))) (.cons (.bi .all (.cons (.lc [3] (.nm 3) (.var 0) .no (.call 1 (.cons (.var 3) (.cons (.var 1) (.cons (.var 2) .nil))))) .nil)) .nil)))) .nil)⟩
/-- is_air -/
def v3 : DefV := ⟨["value"], ["value"], (.cons (.ifS (.or (.cons (.not (.bi .isi (.cons (.var 0) (.cons (.ty "tuple") .nil)))) (.cons (.cmp .ne (.bi .len (.cons (.var 0) .nil)) (.c (.int 2))) (.cons (.not (.call 1 (.cons (.idx (.var 0) (.c (.int 0))) (.cons (.c (.int 1)) (.cons (.gl 1) .nil))))) .nil)))) (.cons (.ret (.c (.bl false))) .nil) .nil) (.cons (.ret (.call 1 (.cons (.idx (.var 0) (.c (.int 1))) (.cons (.c (.int 0)) (.cons (.idx (.var 0) (.c (.int 0))) .nil))))) .nil))⟩
/-- is_push -/
def v4 : DefV := ⟨["winds", "value"], ["winds", "value", "row"], (.cons (.ifS (.or (.cons (.not (.bi .isi (.cons (.var 1) (.cons (.ty "tuple") .nil)))) (.cons (.not (.chn .le .le (.c (.int 1)) (.bi .len (.cons (.var 1) .nil)) (.gl 5))) .nil))) (.cons (.ret (.c (.bl false))) .nil) .nil) (.cons (.ret (.bi .all (.cons (.lc [2] (.nm 2) (.var 1) .no (.and (.cons (.call 2 (.cons (.var 2) (.cons (.c (.int 0)) (.cons (.gl 2) .nil)))) (.cons (.cmp .eq (.bi .len (.cons (.var 2) .nil)) (.bin .add (.var 0) (.c (.int 1)))) .nil)))) .nil))) .nil))⟩
/-- is_gear -/
def v5 : DefV := ⟨["winds", "value"], ["winds", "value", "row"], (.cons (.ifS (.or (.cons (.not (.bi .isi (.cons (.var 1) (.cons (.ty "tuple") .nil)))) (.cons (.cmp .ne (.bi .len (.cons (.var 1) .nil)) (.gl 7)) (.cons (.not (.call 4 (.cons (.var 0) (.cons (.idx (.var 1) (.c (.int 0))) .nil)))) .nil)))) (.cons (.ret (.c (.bl false))) .nil) .nil) (.cons (.ret (.bi .all (.cons (.lc [2] (.nm 2) (.sli (.var 1) (.c (.int 1)) .no) .no (.and (.cons (.call 2 (.cons (.var 2) (.cons (.c (.int 0)) (.cons (.gl 2) .nil)))) (.cons (.chn .le .le (.c (.int 1)) (.bi .len (.cons (.var 2) .nil)) (.gl 6)) .nil)))) .nil))) .nil))⟩
/-- is_mill -/
def v6 : DefV := ⟨["value"], ["value", "top", "air", "gear", "band", "hands"], (.cons (.ifS (.or (.cons (.not (.bi .isi (.cons (.var 0) (.cons (.ty "tuple") .nil)))) (.cons (.cmp .ne (.bi .len (.cons (.var 0) .nil)) (.gl 4)) (.cons (.not (.call 1 (.cons (.idx (.var 0) (.c (.int 0))) (.cons (.c (.int 1)) (.cons (.gl 0) .nil))))) .nil)))) (.cons (.ret (.c (.bl false))) .nil) .nil) (.cons (.asg (.tp (.cons (.nm 1) (.cons (.nm 2) (.cons (.nm 3) (.cons (.nm 4) (.cons (.nm 5) .nil)))))) (.var 0)) (.cons (.ifS (.or (.cons (.not (.call 3 (.cons (.var 2) .nil))) (.cons (.not (.call 5 (.cons (.idx (.var 2) (.c (.int 0))) (.cons (.var 3) .nil)))) (.cons (.not (.call 2 (.cons (.var 4) (.cons (.c (.int 0)) (.cons (.var 1) .nil))))) (.cons (.cmp .ne (.bi .len (.cons (.var 4) .nil)) (.c (.int 2))) .nil))))) (.cons (.ret (.c (.bl false))) .nil) .nil) (.cons (.ret (.and (.cons (.cmp .le (.idx (.var 4) (.c (.int 0))) (.idx (.var 4) (.c (.int 1)))) (.cons (.call 1 (.cons (.var 5) (.cons (.c (.int 0)) (.cons (.gl 3) .nil)))) .nil)))) .nil))))⟩
/-- check_mill -/
def v7 : DefV := ⟨["value"], ["value"], (.cons (.ifS (.not (.call 6 (.cons (.var 0) .nil))) (.cons (.rse 17 (.var 0)) .nil) .nil) .nil)⟩
/-- is_trim_of -/
def v8 : DefV := ⟨["mill", "value"], ["mill", "value", "place", "row"], (.cons (.ifS (.or (.cons (.not (.call 2 (.cons (.var 1) (.cons (.c (.int 0)) (.cons (.gl 2) .nil))))) (.cons (.cmp .ne (.bi .len (.cons (.var 1) .nil)) (.gl 7)) .nil))) (.cons (.ret (.c (.bl false))) .nil) .nil) (.cons (.ret (.bi .all (.cons (.lc [2, 3] (.tp (.cons (.nm 2) (.cons (.nm 3) .nil))) (.zip (.cons (.var 1) (.cons (.idx (.var 0) (.c (.int 2))) .nil))) .no (.cmp .lt (.var 2) (.bi .len (.cons (.var 3) .nil)))) .nil))) .nil))⟩
/-- is_wind_of -/
def v9 : DefV := ⟨["mill", "value"], ["mill", "value"], (.cons (.ret (.call 1 (.cons (.var 1) (.cons (.c (.int 0)) (.cons (.idx (.idx (.var 0) (.c (.int 1))) (.c (.int 0))) .nil))))) .nil)⟩
/-- is_state_of -/
def v10 : DefV := ⟨["mill", "value"], ["mill", "value"], (.cons (.ifS (.or (.cons (.not (.bi .isi (.cons (.var 1) (.cons (.ty "tuple") .nil)))) (.cons (.cmp .ne (.bi .len (.cons (.var 1) .nil)) (.gl 7)) (.cons (.not (.call 1 (.cons (.idx (.var 1) (.c (.int 0))) (.cons (.c (.int 0)) (.cons (.idx (.var 0) (.c (.int 0))) .nil))))) .nil)))) (.cons (.ret (.c (.bl false))) .nil) .nil) (.cons (.ret (.and (.cons (.call 9 (.cons (.var 0) (.cons (.idx (.var 1) (.c (.int 1))) .nil))) (.cons (.call 8 (.cons (.var 0) (.cons (.idx (.var 1) (.c (.int 2))) .nil))) .nil)))) .nil))⟩
/-- check_state -/
def v11 : DefV := ⟨["mill", "state"], ["mill", "state"], (.cons (.ifS (.not (.call 10 (.cons (.var 0) (.cons (.var 1) .nil)))) (.cons (.rse 18 (.var 1)) .nil) .nil) .nil)⟩
/-- check_trim -/
def v12 : DefV := ⟨["mill", "trim"], ["mill", "trim"], (.cons (.ifS (.not (.call 8 (.cons (.var 0) (.cons (.var 1) .nil)))) (.cons (.rse 20 (.var 1)) .nil) .nil) .nil)⟩
/-- check_wind -/
def v13 : DefV := ⟨["mill", "wind"], ["mill", "wind"], (.cons (.ifS (.not (.call 9 (.cons (.var 0) (.cons (.var 1) .nil)))) (.cons (.rse 21 (.var 1)) .nil) .nil) .nil)⟩
/-- is_state -/
def v14 : DefV := ⟨["mill", "value"], ["mill", "value"], (.cons (.doE (.call 7 (.cons (.var 0) .nil))) (.cons (.ret (.call 10 (.cons (.var 0) (.cons (.var 1) .nil)))) .nil))⟩
/-- trims_of -/
def v15 : DefV := ⟨["mill"], ["mill", "push", "drag", "hold", "found", "sails", "stones", "brake"], (.cons (.asg (.tp (.cons (.nm 1) (.cons (.nm 2) (.cons (.nm 3) .nil)))) (.idx (.var 0) (.c (.int 2)))) (.cons (.set 4 (.lst .nil)) (.cons (.forS (.nm 5) (.rng (.cons (.bi .len (.cons (.var 1) .nil)) .nil)) (.cons (.forS (.nm 6) (.rng (.cons (.bi .len (.cons (.var 2) .nil)) .nil)) (.cons (.doE (.me .extend (.var 4) (.cons (.lc [7] (.nm 7) (.rng (.cons (.bi .len (.cons (.var 3) .nil)) .nil)) .no (.tup (.cons (.var 5) (.cons (.var 6) (.cons (.var 7) .nil))))) .nil))) .nil)) .nil)) (.cons (.ret (.var 4)) .nil))))⟩
/-- trims -/
def v16 : DefV := ⟨["mill"], ["mill"], (.cons (.doE (.call 7 (.cons (.var 0) .nil))) (.cons (.ret (.bi .tuple (.cons (.call 15 (.cons (.var 0) .nil)) .nil))) .nil))⟩
/-- state_count -/
def v17 : DefV := ⟨["mill"], ["mill"], (.cons (.doE (.call 7 (.cons (.var 0) .nil))) (.cons (.ret (.bin .mul (.bin .mul (.bin .add (.idx (.var 0) (.c (.int 0))) (.c (.int 1))) (.bin .add (.idx (.idx (.var 0) (.c (.int 1))) (.c (.int 0))) (.c (.int 1)))) (.bi .len (.cons (.call 15 (.cons (.var 0) .nil)) .nil)))) .nil))⟩
/-- is_reach -/
def v18 : DefV := ⟨["mill", "one", "other"], ["mill", "one", "other", "here", "there"], (.cons (.ret (.cmp .le (.bi .sum (.cons (.lc [3, 4] (.tp (.cons (.nm 3) (.cons (.nm 4) .nil))) (.zip (.cons (.var 1) (.cons (.var 2) .nil))) .no (.bi .abs (.cons (.bin .sub (.var 3) (.var 4)) .nil))) .nil)) (.idx (.var 0) (.c (.int 4))))) .nil)⟩
/-- trims_near -/
def v19 : DefV := ⟨["mill", "trim"], ["mill", "trim", "other"], (.cons (.ret (.lc [2] (.nm 2) (.call 15 (.cons (.var 0) .nil)) (.call 18 (.cons (.var 0) (.cons (.var 1) (.cons (.var 2) .nil)))) (.var 2))) .nil)⟩
/-- near_table -/
def v20 : DefV := ⟨["mill"], ["mill", "trim"], (.cons (.ret (.bi .dict (.cons (.lc [1] (.nm 1) (.call 15 (.cons (.var 0) .nil)) .no (.tup (.cons (.var 1) (.cons (.call 19 (.cons (.var 0) (.cons (.var 1) .nil))) .nil)))) .nil))) .nil)⟩
/-- winds_near -/
def v21 : DefV := ⟨["mill", "wind"], ["mill", "wind", "winds", "gust"], (.cons (.asg (.tp (.cons (.nm 2) (.cons (.nm 3) .nil))) (.idx (.var 0) (.c (.int 1)))) (.cons (.ret (.lrg2 (.bi .max (.cons (.c (.int 0)) (.cons (.bin .sub (.var 1) (.var 3)) .nil))) (.bin .add (.bi .min (.cons (.var 2) (.cons (.bin .add (.var 1) (.var 3)) .nil))) (.c (.int 1))))) .nil))⟩
/-- near_trims -/
def v22 : DefV := ⟨["mill", "trim"], ["mill", "trim"], (.cons (.doE (.call 7 (.cons (.var 0) .nil))) (.cons (.doE (.call 12 (.cons (.var 0) (.cons (.var 1) .nil)))) (.cons (.ret (.bi .tuple (.cons (.call 19 (.cons (.var 0) (.cons (.var 1) .nil))) .nil))) .nil)))⟩
/-- near_winds -/
def v23 : DefV := ⟨["mill", "wind"], ["mill", "wind"], (.cons (.doE (.call 7 (.cons (.var 0) .nil))) (.cons (.doE (.call 13 (.cons (.var 0) (.cons (.var 1) .nil)))) (.cons (.ret (.bi .tuple (.cons (.call 21 (.cons (.var 0) (.cons (.var 1) .nil))) .nil))) .nil)))⟩
/-- are_near -/
def v24 : DefV := ⟨["mill", "one", "other"], ["mill", "one", "other"], (.cons (.doE (.call 7 (.cons (.var 0) .nil))) (.cons (.doE (.call 12 (.cons (.var 0) (.cons (.var 1) .nil)))) (.cons (.doE (.call 12 (.cons (.var 0) (.cons (.var 2) .nil)))) (.cons (.ret (.call 18 (.cons (.var 0) (.cons (.var 1) (.cons (.var 2) .nil))))) .nil))))⟩
/-- check_far -/
def v25 : DefV := ⟨["mill", "state", "trim"], ["mill", "state", "trim"], (.cons (.doE (.call 7 (.cons (.var 0) .nil))) (.cons (.doE (.call 11 (.cons (.var 0) (.cons (.var 1) .nil)))) (.cons (.doE (.call 12 (.cons (.var 0) (.cons (.var 2) .nil)))) (.cons (.ifS (.not (.call 18 (.cons (.var 0) (.cons (.idx (.var 1) (.c (.int 2))) (.cons (.var 2) .nil))))) (.cons (.rse 22 (.var 2)) .nil) .nil) .nil))))⟩
/-- check_tick -/
def v26 : DefV := ⟨["mill", "state", "trim", "wind"], ["mill", "state", "trim", "wind"], (.cons (.doE (.call 7 (.cons (.var 0) .nil))) (.cons (.doE (.call 11 (.cons (.var 0) (.cons (.var 1) .nil)))) (.cons (.doE (.call 12 (.cons (.var 0) (.cons (.var 2) .nil)))) (.cons (.doE (.call 13 (.cons (.var 0) (.cons (.var 3) .nil)))) (.cons (.ifS (.not (.call 18 (.cons (.var 0) (.cons (.idx (.var 1) (.c (.int 2))) (.cons (.var 2) .nil))))) (.cons (.rse 22 (.var 2)) .nil) .nil) (.cons (.ifS (.cmp .ninn (.var 3) (.call 21 (.cons (.var 0) (.cons (.idx (.var 1) (.c (.int 1))) .nil)))) (.cons (.rse 23 (.var 3)) .nil) .nil) .nil))))))⟩
/-- speed_behind -/
def v27 : DefV := ⟨["mill", "speed", "trim", "wind"], ["mill", "speed", "trim", "wind", "push", "drag", "hold"], (.cons (.asg (.tp (.cons (.nm 4) (.cons (.nm 5) (.cons (.nm 6) .nil)))) (.idx (.var 0) (.c (.int 2)))) (.cons (.ret (.bi .max (.cons (.c (.int 0)) (.cons (.bin .sub (.bin .sub (.bin .add (.var 1) (.idx (.idx (.var 4) (.idx (.var 2) (.c (.int 0)))) (.var 3))) (.idx (.var 5) (.idx (.var 2) (.c (.int 1))))) (.idx (.var 6) (.idx (.var 2) (.c (.int 2))))) .nil)))) .nil))⟩
/-- sacks_at -/
def v28 : DefV := ⟨["mill", "speed", "trim"], ["mill", "speed", "trim"], (.cons (.ret (.ife (.chn .le .le (.idx (.idx (.var 0) (.c (.int 3))) (.c (.int 0))) (.var 1) (.idx (.idx (.var 0) (.c (.int 3))) (.c (.int 1)))) (.idx (.var 2) (.c (.int 1))) (.c (.int 0)))) .nil)⟩
/-- next_speed -/
def v29 : DefV := ⟨["mill", "state", "trim", "wind"], ["mill", "state", "trim", "wind"], (.cons (.doE (.call 26 (.cons (.var 0) (.cons (.var 1) (.cons (.var 2) (.cons (.var 3) .nil)))))) (.cons (.ret (.call 27 (.cons (.var 0) (.cons (.idx (.var 1) (.c (.int 0))) (.cons (.var 2) (.cons (.var 3) .nil)))))) .nil))⟩
/-- check_tame -/
def v30 : DefV := ⟨["mill", "state", "trim", "wind"], ["mill", "state", "trim", "wind", "speed"], (.cons (.doE (.call 26 (.cons (.var 0) (.cons (.var 1) (.cons (.var 2) (.cons (.var 3) .nil)))))) (.cons (.set 4 (.call 27 (.cons (.var 0) (.cons (.idx (.var 1) (.c (.int 0))) (.cons (.var 2) (.cons (.var 3) .nil)))))) (.cons (.ifS (.cmp .gt (.var 4) (.idx (.var 0) (.c (.int 0)))) (.cons (.rse 24 (.var 4)) .nil) .nil) (.cons (.ret (.var 4)) .nil))))⟩
/-- next_state -/
def v31 : DefV := ⟨["mill", "state", "trim", "wind"], ["mill", "state", "trim", "wind"], (.cons (.ret (.tup (.cons (.call 30 (.cons (.var 0) (.cons (.var 1) (.cons (.var 2) (.cons (.var 3) .nil))))) (.cons (.var 3) (.cons (.var 2) .nil))))) .nil)⟩
/-- ground -/
def v32 : DefV := ⟨["mill", "state", "trim", "wind"], ["mill", "state", "trim", "wind"], (.cons (.ret (.call 28 (.cons (.var 0) (.cons (.call 30 (.cons (.var 0) (.cons (.var 1) (.cons (.var 2) (.cons (.var 3) .nil))))) (.cons (.var 2) .nil))))) .nil)⟩
/-- come_of -/
def v33 : DefV := ⟨["mill", "state", "trim"], ["mill", "state", "trim", "ticks", "wind", "fine", "speed"], (.cons (.set 3 (.lc [4] (.nm 4) (.call 21 (.cons (.var 0) (.cons (.idx (.var 1) (.c (.int 1))) .nil))) .no (.tup (.cons (.call 27 (.cons (.var 0) (.cons (.idx (.var 1) (.c (.int 0))) (.cons (.var 2) (.cons (.var 4) .nil))))) (.cons (.var 4) .nil))))) (.cons (.set 5 (.lc [6, 4] (.tp (.cons (.nm 6) (.cons (.nm 4) .nil))) (.var 3) (.cmp .le (.var 6) (.idx (.var 0) (.c (.int 0)))) (.tup (.cons (.var 6) (.cons (.var 4) (.cons (.var 2) .nil)))))) (.cons (.ret (.tup (.cons (.bi .sorted (.cons (.var 5) .nil)) (.cons (.cmp .lt (.bi .len (.cons (.var 5) .nil)) (.bi .len (.cons (.var 3) .nil))) .nil)))) .nil)))⟩
/-- may_come -/
def v34 : DefV := ⟨["mill", "state", "trim"], ["mill", "state", "trim", "states", "is_wild"], (.cons (.doE (.call 25 (.cons (.var 0) (.cons (.var 1) (.cons (.var 2) .nil))))) (.cons (.asg (.tp (.cons (.nm 3) (.cons (.nm 4) .nil))) (.call 33 (.cons (.var 0) (.cons (.var 1) (.cons (.var 2) .nil))))) (.cons (.ret (.tup (.cons (.bi .tuple (.cons (.var 3) .nil)) (.cons (.var 4) .nil)))) .nil)))⟩
/-- check_at -/
def v35 : DefV := ⟨["mill", "state"], ["mill", "state"], (.cons (.doE (.call 7 (.cons (.var 0) .nil))) (.cons (.doE (.call 11 (.cons (.var 0) (.cons (.var 1) .nil)))) .nil))⟩
/-- is_tick -/
def v36 : DefV := ⟨["mill", "value"], ["mill", "value"], (.cons (.ifS (.or (.cons (.not (.bi .isi (.cons (.var 1) (.cons (.ty "tuple") .nil)))) (.cons (.cmp .ne (.bi .len (.cons (.var 1) .nil)) (.c (.int 2))) .nil))) (.cons (.ret (.c (.bl false))) .nil) .nil) (.cons (.ret (.and (.cons (.call 8 (.cons (.var 0) (.cons (.idx (.var 1) (.c (.int 0))) .nil))) (.cons (.call 9 (.cons (.var 0) (.cons (.idx (.var 1) (.c (.int 1))) .nil))) .nil)))) .nil))⟩
/-- is_day -/
def v37 : DefV := ⟨["mill", "value"], ["mill", "value", "tick"], (.cons (.ret (.and (.cons (.bi .isi (.cons (.var 1) (.cons (.ty "tuple") .nil))) (.cons (.cmp .le (.bi .len (.cons (.var 1) .nil)) (.gl 8)) (.cons (.bi .all (.cons (.lc [2] (.nm 2) (.var 1) .no (.call 36 (.cons (.var 0) (.cons (.var 2) .nil)))) .nil)) .nil))))) .nil)⟩
/-- check_day -/
def v38 : DefV := ⟨["mill", "state", "day"], ["mill", "state", "day"], (.cons (.doE (.call 35 (.cons (.var 0) (.cons (.var 1) .nil)))) (.cons (.ifS (.not (.call 37 (.cons (.var 0) (.cons (.var 2) .nil)))) (.cons (.rse 16 (.var 2)) .nil) .nil) .nil))⟩
/-- bar_of -/
def v39 : DefV := ⟨["mill", "state", "tick"], ["mill", "state", "tick", "trim", "wind"], (.cons (.asg (.tp (.cons (.nm 3) (.cons (.nm 4) .nil))) (.var 2)) (.cons (.ifS (.not (.call 18 (.cons (.var 0) (.cons (.idx (.var 1) (.c (.int 2))) (.cons (.var 3) .nil))))) (.cons (.ret (.gl 10)) .nil) .nil) (.cons (.ifS (.cmp .ninn (.var 4) (.call 21 (.cons (.var 0) (.cons (.idx (.var 1) (.c (.int 1))) .nil)))) (.cons (.ret (.gl 11)) .nil) .nil) (.cons (.ret (.ife (.cmp .gt (.call 27 (.cons (.var 0) (.cons (.idx (.var 1) (.c (.int 0))) (.cons (.var 3) (.cons (.var 4) .nil))))) (.idx (.var 0) (.c (.int 0)))) (.gl 12) (.c .non))) .nil))))⟩
/-- gone_through -/
def v40 : DefV := ⟨["mill", "state", "day"], ["mill", "state", "day", "found", "trim", "wind", "word"], (.cons (.set 3 (.lst (.cons (.var 1) .nil))) (.cons (.forS (.tp (.cons (.nm 4) (.cons (.nm 5) .nil))) (.var 2) (.cons (.set 6 (.call 39 (.cons (.var 0) (.cons (.idx (.var 3) (.neg (.c (.int 1)))) (.cons (.tup (.cons (.var 4) (.cons (.var 5) .nil))) .nil))))) (.cons (.ifS (.cmp .isN (.var 6) (.c .non)) (.cons (.ret (.tup (.cons (.var 3) (.cons (.var 6) .nil)))) .nil) .nil) (.cons (.doE (.me .append (.var 3) (.cons (.tup (.cons (.call 27 (.cons (.var 0) (.cons (.idx (.idx (.var 3) (.neg (.c (.int 1)))) (.c (.int 0))) (.cons (.var 4) (.cons (.var 5) .nil))))) (.cons (.var 5) (.cons (.var 4) .nil)))) .nil))) .nil)))) (.cons (.ret (.tup (.cons (.var 3) (.cons (.c .non) .nil)))) .nil)))⟩
/-- run_day -/
def v41 : DefV := ⟨["mill", "state", "day"], ["mill", "state", "day", "states", "word"], (.cons (.doE (.call 38 (.cons (.var 0) (.cons (.var 1) (.cons (.var 2) .nil))))) (.cons (.asg (.tp (.cons (.nm 3) (.cons (.nm 4) .nil))) (.call 40 (.cons (.var 0) (.cons (.var 1) (.cons (.var 2) .nil))))) (.cons (.ifS (.cmp .isN (.var 4) (.c .non)) (.cons (.rse 25 (.bin .sub (.bi .len (.cons (.var 3) .nil)) (.c (.int 1)))) .nil) .nil) (.cons (.ret (.bi .tuple (.cons (.var 3) .nil))) .nil))))⟩
/-- day_told -/
def v42 : DefV := ⟨["mill", "state", "day"], ["mill", "state", "day", "states", "word", "speed", "wind", "trim"], (.cons (.doE (.call 38 (.cons (.var 0) (.cons (.var 1) (.cons (.var 2) .nil))))) (.cons (.asg (.tp (.cons (.nm 3) (.cons (.nm 4) .nil))) (.call 40 (.cons (.var 0) (.cons (.var 1) (.cons (.var 2) .nil))))) (.cons (.ifS (.cmp .isN (.var 4) (.c .non)) (.cons (.ret (.tup (.cons (.var 4) (.cons (.bin .sub (.bi .len (.cons (.var 3) .nil)) (.c (.int 1))) .nil)))) .nil) .nil) (.cons (.ret (.tup (.cons (.gl 9) (.cons (.bi .sum (.cons (.lc [5, 6, 7] (.tp (.cons (.nm 5) (.cons (.nm 6) (.cons (.nm 7) .nil)))) (.sli (.var 3) (.c (.int 1)) .no) .no (.call 28 (.cons (.var 0) (.cons (.var 5) (.cons (.var 7) .nil))))) .nil)) .nil)))) .nil))))⟩
/-- all_from -/
def v43 : DefV := ⟨["mill", "state"], ["mill", "state", "found", "edge", "is_wild", "near", "later", "here", "trim", "there", "states", "is_beyond", "one"], (.cons (.parT [2, 3, 4, 5] (.cons (.dsp (.cons (.var 1) (.cons (.c .non) .nil))) (.cons (.lst (.cons (.var 1) .nil)) (.cons (.c (.bl false)) (.cons (.call 20 (.cons (.var 0) .nil)) .nil))))) (.cons (.whl 100000 (.cmp .ne (.var 3) (.lst .nil)) (.cons (.set 6 (.lst .nil)) (.cons (.forS (.nm 7) (.var 3) (.cons (.forS (.nm 8) (.idx (.var 5) (.idx (.var 7) (.c (.int 2)))) (.cons (.asg (.tp (.cons (.nm 10) (.cons (.nm 11) .nil))) (.call 33 (.cons (.var 0) (.cons (.var 7) (.cons (.var 8) .nil))))) (.cons (.set 4 (.or (.cons (.var 4) (.cons (.var 11) .nil)))) (.cons (.forS (.nm 9) (.lc [12] (.nm 12) (.var 10) (.cmp .ninn (.var 12) (.var 2)) (.var 12)) (.cons (.setix (.var 2) (.var 9) (.var 7)) (.cons (.doE (.me .append (.var 6) (.cons (.var 9) .nil))) .nil))) .nil)))) .nil)) (.cons (.set 3 (.var 6)) .nil)))) (.cons (.ret (.tup (.cons (.var 2) (.cons (.var 4) .nil)))) .nil)))⟩
/-- all_come -/
def v44 : DefV := ⟨["mill", "state"], ["mill", "state", "found", "is_wild"], (.cons (.doE (.call 35 (.cons (.var 0) (.cons (.var 1) .nil)))) (.cons (.asg (.tp (.cons (.nm 2) (.cons (.nm 3) .nil))) (.call 43 (.cons (.var 0) (.cons (.var 1) .nil)))) (.cons (.ret (.tup (.cons (.bi .tuple (.cons (.bi .sorted (.cons (.var 2) .nil)) .nil)) (.cons (.var 3) .nil)))) .nil)))⟩
/-- fewest_of -/
def v45 : DefV := ⟨["mill", "one", "other"], ["mill", "one", "other", "found", "row", "speed", "wind", "trim"], (.cons (.set 3 (.idx (.call 43 (.cons (.var 0) (.cons (.var 1) .nil))) (.c (.int 0)))) (.cons (.ifS (.cmp .ninn (.var 2) (.var 3)) (.cons (.ret (.c .non)) .nil) .nil) (.cons (.set 4 (.lst (.cons (.var 2) .nil))) (.cons (.whl 100000 (.cmp .isN (.idx (.var 3) (.idx (.var 4) (.neg (.c (.int 1))))) (.c .non)) (.cons (.doE (.me .append (.var 4) (.cons (.idx (.var 3) (.idx (.var 4) (.neg (.c (.int 1))))) .nil))) .nil)) (.cons (.ret (.bi .tuple (.cons (.rev (.lc [5, 6, 7] (.tp (.cons (.nm 5) (.cons (.nm 6) (.cons (.nm 7) .nil)))) (.sli (.var 4) .no (.neg (.c (.int 1)))) .no (.tup (.cons (.var 7) (.cons (.var 6) .nil))))) .nil))) .nil)))))⟩
/-- check_two -/
def v46 : DefV := ⟨["mill", "one", "other"], ["mill", "one", "other"], (.cons (.doE (.call 35 (.cons (.var 0) (.cons (.var 1) .nil)))) (.cons (.doE (.call 11 (.cons (.var 0) (.cons (.var 2) .nil)))) .nil))⟩
/-- fewest_ticks -/
def v47 : DefV := ⟨["mill", "one", "other"], ["mill", "one", "other", "day"], (.cons (.doE (.call 46 (.cons (.var 0) (.cons (.var 1) (.cons (.var 2) .nil))))) (.cons (.set 3 (.call 45 (.cons (.var 0) (.cons (.var 1) (.cons (.var 2) .nil))))) (.cons (.ret (.ife (.or (.cons (.cmp .is (.var 3) (.c .non)) (.cons (.cmp .gt (.bi .len (.cons (.var 3) .nil)) (.gl 8)) .nil))) (.tup (.cons (.gl 14) .nil)) (.tup (.cons (.gl 13) (.cons (.var 3) .nil))))) .nil)))⟩
/-- shows_fewest_ticks -/
def v48 : DefV := ⟨["mill", "one", "other", "value"], ["mill", "one", "other", "value", "day", "states", "word"], (.cons (.doE (.call 46 (.cons (.var 0) (.cons (.var 1) (.cons (.var 2) .nil))))) (.cons (.set 4 (.call 45 (.cons (.var 0) (.cons (.var 1) (.cons (.var 2) .nil))))) (.cons (.ifS (.or (.cons (.not (.bi .isi (.cons (.var 3) (.cons (.ty "tuple") .nil)))) (.cons (.cmp .ninn (.bi .len (.cons (.var 3) .nil)) (.tup (.cons (.c (.int 1)) (.cons (.c (.int 2)) .nil)))) (.cons (.not (.bi .isi (.cons (.idx (.var 3) (.c (.int 0))) (.cons (.ty "str") .nil)))) .nil)))) (.cons (.ret (.c (.bl false))) .nil) .nil) (.cons (.ifS (.or (.cons (.cmp .is (.var 4) (.c .non)) (.cons (.cmp .gt (.bi .len (.cons (.var 4) .nil)) (.gl 8)) (.cons (.cmp .eq (.bi .len (.cons (.var 3) .nil)) (.c (.int 1))) .nil)))) (.cons (.ret (.and (.cons (.or (.cons (.cmp .is (.var 4) (.c .non)) (.cons (.cmp .gt (.bi .len (.cons (.var 4) .nil)) (.gl 8)) .nil))) (.cons (.cmp .eq (.var 3) (.tup (.cons (.gl 14) .nil))) .nil)))) .nil) .nil) (.cons (.ifS (.or (.cons (.cmp .ne (.idx (.var 3) (.c (.int 0))) (.gl 13)) (.cons (.not (.call 37 (.cons (.var 0) (.cons (.idx (.var 3) (.c (.int 1))) .nil)))) (.cons (.cmp .ne (.bi .len (.cons (.idx (.var 3) (.c (.int 1))) .nil)) (.bi .len (.cons (.var 4) .nil))) .nil)))) (.cons (.ret (.c (.bl false))) .nil) .nil) (.cons (.asg (.tp (.cons (.nm 5) (.cons (.nm 6) .nil))) (.call 40 (.cons (.var 0) (.cons (.var 1) (.cons (.idx (.var 3) (.c (.int 1))) .nil))))) (.cons (.ret (.and (.cons (.cmp .is (.var 6) (.c .non)) (.cons (.cmp .eq (.idx (.var 5) (.neg (.c (.int 1)))) (.var 2)) .nil)))) .nil)))))))⟩
/-- layers_from -/
def v49 : DefV := ⟨["mill", "state", "ticks"], ["mill", "state", "ticks", "found", "near", "lap", "later", "here", "trim", "there"], (.cons (.par2 3 4 (.lst (.cons (.dsp (.cons (.var 1) (.cons (.c .non) .nil))) .nil)) (.call 20 (.cons (.var 0) .nil))) (.cons (.forS (.nm 5) (.rng (.cons (.var 2) .nil)) (.cons (.set 6 .dct0) (.cons (.forS (.nm 7) (.idx (.var 3) (.neg (.c (.int 1)))) (.cons (.forS (.nm 8) (.idx (.var 4) (.idx (.var 7) (.c (.int 2)))) (.cons (.forS (.nm 9) (.idx (.call 33 (.cons (.var 0) (.cons (.var 7) (.cons (.var 8) .nil)))) (.c (.int 0))) (.cons (.setix (.var 6) (.var 9) (.var 7)) .nil)) .nil)) .nil)) (.cons (.ifS (.cmp .eq (.bi .sorted (.cons (.var 6) .nil)) (.bi .sorted (.cons (.idx (.var 3) (.neg (.c (.int 1)))) .nil))) (.cons (.ret (.bin .add (.var 3) (.bin .mul (.lst (.cons (.var 6) .nil)) (.bin .sub (.var 2) (.var 5))))) .nil) .nil) (.cons (.doE (.me .append (.var 3) (.cons (.var 6) .nil))) .nil))))) (.cons (.ret (.var 3)) .nil)))⟩
/-- wildest_of -/
def v50 : DefV := ⟨["mill", "state", "ticks"], ["mill", "state", "ticks", "layers", "here", "day", "layer"], (.cons (.set 3 (.call 49 (.cons (.var 0) (.cons (.var 1) (.cons (.var 2) .nil))))) (.cons (.ifS (.cmp .eq (.idx (.var 3) (.neg (.c (.int 1)))) .dct0) (.cons (.ret (.c .non)) .nil) .nil) (.cons (.par2 4 5 (.bi .max (.cons (.idx (.var 3) (.neg (.c (.int 1)))) .nil)) (.lst .nil)) (.cons (.forS (.nm 6) (.slr (.var 3) .no (.c (.int 0))) (.cons (.doE (.me .append (.var 5) (.cons (.tup (.cons (.idx (.var 4) (.c (.int 2))) (.cons (.idx (.var 4) (.c (.int 1))) .nil))) .nil))) (.cons (.set 4 (.idx (.var 6) (.var 4))) .nil))) (.cons (.ret (.tup (.cons (.idx (.bi .max (.cons (.idx (.var 3) (.neg (.c (.int 1)))) .nil)) (.c (.int 0))) (.cons (.bi .tuple (.cons (.rev (.var 5)) .nil)) .nil)))) .nil)))))⟩
/-- check_ticks -/
def v51 : DefV := ⟨["mill", "state", "ticks"], ["mill", "state", "ticks"], (.cons (.doE (.call 35 (.cons (.var 0) (.cons (.var 1) .nil)))) (.cons (.ifS (.not (.call 1 (.cons (.var 2) (.cons (.c (.int 0)) (.cons (.gl 8) .nil))))) (.cons (.rse 19 (.var 2)) .nil) .nil) .nil))⟩
/-- wildest -/
def v52 : DefV := ⟨["mill", "state", "ticks"], ["mill", "state", "ticks"], (.cons (.doE (.call 51 (.cons (.var 0) (.cons (.var 1) (.cons (.var 2) .nil))))) (.cons (.ret (.call 50 (.cons (.var 0) (.cons (.var 1) (.cons (.var 2) .nil))))) .nil))⟩
/-- shows_wildest -/
def v53 : DefV := ⟨["mill", "state", "ticks", "value"], ["mill", "state", "ticks", "value", "told", "states", "word"], (.cons (.doE (.call 51 (.cons (.var 0) (.cons (.var 1) (.cons (.var 2) .nil))))) (.cons (.set 4 (.call 50 (.cons (.var 0) (.cons (.var 1) (.cons (.var 2) .nil))))) (.cons (.ifS (.or (.cons (.cmp .is (.var 3) (.c .non)) (.cons (.cmp .is (.var 4) (.c .non)) .nil))) (.cons (.ret (.and (.cons (.cmp .is (.var 3) (.c .non)) (.cons (.cmp .is (.var 4) (.c .non)) .nil)))) .nil) .nil) (.cons (.ifS (.or (.cons (.not (.bi .isi (.cons (.var 3) (.cons (.ty "tuple") .nil)))) (.cons (.cmp .ne (.bi .len (.cons (.var 3) .nil)) (.c (.int 2))) (.cons (.not (.call 0 (.cons (.idx (.var 3) (.c (.int 0))) .nil))) (.cons (.not (.call 37 (.cons (.var 0) (.cons (.idx (.var 3) (.c (.int 1))) .nil)))) .nil))))) (.cons (.ret (.c (.bl false))) .nil) .nil) (.cons (.ifS (.or (.cons (.cmp .ne (.idx (.var 3) (.c (.int 0))) (.idx (.var 4) (.c (.int 0)))) (.cons (.cmp .ne (.bi .len (.cons (.idx (.var 3) (.c (.int 1))) .nil)) (.var 2)) .nil))) (.cons (.ret (.c (.bl false))) .nil) .nil) (.cons (.asg (.tp (.cons (.nm 5) (.cons (.nm 6) .nil))) (.call 40 (.cons (.var 0) (.cons (.var 1) (.cons (.idx (.var 3) (.c (.int 1))) .nil))))) (.cons (.ret (.and (.cons (.cmp .is (.var 6) (.c .non)) (.cons (.cmp .eq (.idx (.idx (.var 5) (.neg (.c (.int 1)))) (.c (.int 0))) (.idx (.var 4) (.c (.int 0)))) .nil)))) .nil)))))))⟩
/-- _law_pot -/
def v54 : DefV := ⟨["script", "place"], ["script", "place", "cell", "own", "small"], (.cons (.set 2 (.ife (.cmp .lt (.var 1) (.bi .len (.cons (.var 0) .nil))) (.idx (.var 0) (.var 1)) (.bin .add (.bin .add (.bin .mod (.bi .int (.cons (.bi .sum (.cons (.sli (.var 0) .no (.c (.int 1))) .nil)) .nil)) (.c (.int 1000003))) (.bin .mul (.c (.int 3054)) (.var 1))) (.c (.int 6968))))) (.cons (.set 3 (.bin .mul (.bin .mod (.bi .int (.cons (.bi .abs (.cons (.var 2) .nil)) .nil)) (.bin .pow (.bin .pow (.c (.int 10)) (.c (.int 60))) (.c (.int 5)))) (.bi .int (.cons (.cmp .ge (.bi .abs (.cons (.var 2) .nil)) (.bin .pow (.c (.int 10)) (.c (.int 18)))) .nil)))) (.cons (.set 4 (.bin .mod (.bi .int (.cons (.var 2) .nil)) (.c (.int 2305843009213693951)))) (.cons (.ret (.lst (.cons (.var 3) (.cons (.bin .mod (.bi .int (.cons (.bin .add (.bin .add (.bin .mul (.var 4) (.c (.int 88819))) (.bin .mul (.bin .mul (.c (.int 12717)) (.var 1)) (.var 1))) (.c (.int 2454))) .nil)) (.c (.int 2305843009213693921))) (.cons (.c (.int 0)) .nil))))) .nil))))⟩
/-- _law_take -/
def v55 : DefV := ⟨["pot", "upto"], ["pot", "upto", "digit", "prime", "blend"], (.cons (.ifS (.cmp .gt (.idx (.var 0) (.c (.int 0))) (.c (.int 0))) (.cons (.set 2 (.bin .mod (.bi .int (.cons (.idx (.var 0) (.c (.int 0))) .nil)) (.var 1))) (.cons (.setix (.var 0) (.c (.int 0)) (.bin .fdiv (.idx (.var 0) (.c (.int 0))) (.var 1))) (.cons (.ret (.var 2)) .nil))) .nil) (.cons (.setix (.var 0) (.c (.int 2)) (.bin .add (.idx (.var 0) (.c (.int 2))) (.c (.int 1)))) (.cons (.set 3 (.idx (.lst (.cons (.c (.int 2147483647)) (.cons (.c (.int 2147483629)) (.cons (.c (.int 2147483587)) (.cons (.c (.int 2147483579)) .nil))))) (.bin .mod (.bi .int (.cons (.idx (.var 0) (.c (.int 2))) .nil)) (.c (.int 4))))) (.cons (.set 4 (.bin .mod (.bi .int (.cons (.bin .pow (.bi .int (.cons (.bin .add (.bin .add (.idx (.var 0) (.c (.int 1))) (.bin .mul (.bin .mul (.c (.int 126069)) (.idx (.var 0) (.c (.int 2)))) (.idx (.var 0) (.c (.int 2))))) (.c (.int 3154))) .nil)) (.c (.int 3))) .nil)) (.var 3))) (.cons (.ret (.bin .mod (.bi .int (.cons (.bin .fdiv (.bin .mul (.var 4) (.bin .add (.bin .mod (.bi .int (.cons (.var 4) .nil)) (.c (.int 10007))) (.bin .mul (.c (.int 2356)) (.idx (.var 0) (.c (.int 2)))))) (.c (.int 307))) .nil)) (.var 1))) .nil)))))⟩
/-- _law_of -/
def v56 : DefV := ⟨["pot", "some"], ["pot", "some"], (.cons (.ret (.idx (.var 1) (.call 55 (.cons (.var 0) (.cons (.bi .len (.cons (.var 1) .nil)) .nil))))) .nil)⟩
/-- _law_cells -/
def v57 : DefV := ⟨["script", "limit"], ["script", "limit"], (.cons (.ret (.lrg1 (.bi .max (.cons (.c (.int 1)) (.cons (.bi .min (.cons (.var 1) (.cons (.bi .len (.cons (.var 0) .nil)) .nil))) .nil))))) .nil)⟩
/-- _law_caught -/
def v58 : DefV := ⟨["call"], ["call", "caught"], (.cons .never (.cons .never .nil))⟩
/-- _law_is_raised -/
def v59 : DefV := ⟨["call", "due"], ["call", "due", "caught", "marks"], (.cons (.set 2 (.call 58 (.cons (.var 0) .nil))) (.cons (.ifS (.cmp .is (.var 1) (.c .non)) (.cons (.ret (.cmp .is (.var 2) (.c .non))) .nil) .nil) (.cons (.set 3 (.dsp (.cons (.c (.str "mill")) (.cons (.bi .isi (.cons (.var 2) (.cons (.gl 17) .nil))) (.cons (.c (.str "state")) (.cons (.bi .isi (.cons (.var 2) (.cons (.gl 18) .nil))) (.cons (.c (.str "trim")) (.cons (.bi .isi (.cons (.var 2) (.cons (.gl 20) .nil))) .nil)))))))) (.cons (.doE (.me .update (.var 3) (.cons (.dsp (.cons (.c (.str "wind")) (.cons (.bi .isi (.cons (.var 2) (.cons (.gl 21) .nil))) (.cons (.c (.str "day")) (.cons (.bi .isi (.cons (.var 2) (.cons (.gl 16) .nil))) (.cons (.c (.str "ticks")) (.cons (.bi .isi (.cons (.var 2) (.cons (.gl 19) .nil))) .nil))))))) .nil))) (.cons (.ret (.and (.cons (.idx (.var 3) (.idx (.var 1) (.c (.int 0)))) (.cons (.cmp .eq (.bi .repr (.cons (.xv (.var 2)) .nil)) (.bi .repr (.cons (.idx (.var 1) (.c (.int 1))) .nil))) .nil)))) .nil)))))⟩
/-- _law_right -/
def v60 : DefV := ⟨["pot"], ["pot", "fine", "top", "air", "gear", "band", "hands", "bad", "mill", "calm", "state", "other", "trim", "wind", "good", "day", "ticks", "m", "s", "o", "t", "w", "d", "k", "looks", "look", "due"], (.cons .never (.cons .never (.cons .never (.cons .never (.cons .never (.cons .never (.cons .never (.cons .never (.cons .never (.cons .never (.cons .never (.cons .never (.cons .never (.cons .never (.cons .never (.cons .never (.cons .never (.cons .never (.cons .never (.cons .never (.cons .never (.cons .never (.cons .never (.cons .never (.cons .never (.cons .never (.cons .never (.cons .never (.cons .never (.cons .never (.cons .never (.cons .never (.cons .never (.cons .never (.cons .never .nil)))))))))))))))))))))))))))))))))))⟩
/-- law -/
def v61 : DefV := ⟨["script"], ["script", "place", "pot", "lap"], (.cons (.forS (.nm 1) (.call 57 (.cons (.var 0) (.cons (.c (.int 3)) .nil))) (.cons (.set 2 (.shr (.call 54 (.cons (.var 0) (.cons (.var 1) .nil))))) (.cons (.ifS (.not (.bi .all (.cons (.lc [3] (.nm 3) (.rng (.cons (.c (.int 6)) .nil)) .no (.call 60 (.cons (.var 2) .nil))) .nil))) (.cons (.ret (.c (.bl false))) .nil) .nil) .nil))) (.cons (.ret (.c (.bl true))) .nil))⟩
def prog : List DefV := [v0, v1, v2, v3, v4, v5, v6, v7, v8, v9, v10, v11, v12, v13, v14, v15, v16, v17, v18, v19, v20, v21, v22, v23, v24, v25, v26, v27, v28, v29, v30, v31, v32, v33, v34, v35, v36, v37, v38, v39, v40, v41, v42, v43, v44, v45, v46, v47, v48, v49, v50, v51, v52, v53, v54, v55, v56, v57, v58, v59, v60, v61]
def rp0 : Sm := (.set 1 (.tup (.cons (.c (.int 3)) (.cons (.tup (.cons (.c (.int 2)) (.cons (.c (.int 1)) .nil))) (.cons (.tup (.cons (.tup (.cons (.tup (.cons (.c (.int 0)) (.cons (.c (.int 0)) (.cons (.c (.int 0)) .nil)))) (.cons (.tup (.cons (.c (.int 0)) (.cons (.c (.int 1)) (.cons (.c (.int 2)) .nil)))) .nil))) (.cons (.tup (.cons (.c (.int 0)) (.cons (.c (.int 1)) .nil))) (.cons (.tup (.cons (.c (.int 0)) (.cons (.c (.int 1)) .nil))) .nil)))) (.cons (.tup (.cons (.c (.int 1)) (.cons (.c (.int 2)) .nil))) (.cons (.c (.int 1)) .nil)))))))
def rp1 : Sm := (.asg (.tp (.cons (.nm 2) (.cons (.nm 3) (.cons (.nm 4) (.cons (.nm 5) (.cons (.nm 6) .nil)))))) (.var 1))
def rp2 : Sm := (.set 7 (.lst (.cons (.c .non) (.cons (.tup .nil) (.cons (.sli (.var 1) .no (.c (.int 4))) (.cons (.bi .list (.cons (.var 1) .nil)) (.cons (.tup (.cons (.c (.int 0)) (.cons (.var 3) (.cons (.var 4) (.cons (.tup (.cons (.c (.int 0)) (.cons (.c (.int 0)) .nil))) (.cons (.var 6) .nil)))))) (.cons (.tup (.cons (.c (.int 13)) (.cons (.var 3) (.cons (.var 4) (.cons (.var 5) (.cons (.var 6) .nil)))))) .nil))))))))
def rp3 : Sm := (.doE (.me .extend (.var 7) (.cons (.lst (.cons (.tup (.cons (.var 2) (.cons (.tup (.cons (.c (.int 5)) (.cons (.c (.int 0)) .nil))) (.cons (.var 4) (.cons (.var 5) (.cons (.var 6) .nil)))))) (.cons (.tup (.cons (.var 2) (.cons (.var 3) (.cons (.sli (.var 4) .no (.c (.int 2))) (.cons (.var 5) (.cons (.var 6) .nil)))))) (.cons (.tup (.cons (.var 2) (.cons (.var 3) (.cons (.var 4) (.cons (.tup (.cons (.c (.int 2)) (.cons (.c (.int 1)) .nil))) (.cons (.var 6) .nil)))))) .nil)))) .nil)))
def rp4 : Sm := (.set 8 (.ife (.cmp .eq (.call 55 (.cons (.var 0) (.cons (.c (.int 3)) .nil))) (.c (.int 0))) (.call 56 (.cons (.var 0) (.cons (.var 7) .nil))) (.var 1)))
def rp5 : Sm := (.set 9 (.tup (.cons (.c (.int 0)) (.cons (.c (.int 0)) (.cons (.tup (.cons (.c (.int 0)) (.cons (.c (.int 0)) (.cons (.c (.int 0)) .nil)))) .nil)))))
def rp6 : Sm := (.set 10 (.ife (.cmp .eq (.call 55 (.cons (.var 0) (.cons (.c (.int 3)) .nil))) (.c (.int 0))) (.call 56 (.cons (.var 0) (.cons (.lst (.cons (.c .non) (.cons (.tup .nil) (.cons (.tup (.cons (.c (.int 4)) (.cons (.c (.int 0)) (.cons (.tup (.cons (.c (.int 0)) (.cons (.c (.int 0)) (.cons (.c (.int 0)) .nil)))) .nil)))) (.cons (.tup (.cons (.c (.int 0)) (.cons (.c (.int 3)) (.cons (.tup (.cons (.c (.int 0)) (.cons (.c (.int 0)) (.cons (.c (.int 0)) .nil)))) .nil)))) (.cons (.tup (.cons (.c (.int 0)) (.cons (.c (.int 0)) (.cons (.tup (.cons (.c (.int 2)) (.cons (.c (.int 0)) (.cons (.c (.int 0)) .nil)))) .nil)))) (.cons (.lst (.cons (.c (.int 0)) (.cons (.c (.int 0)) (.cons (.tup (.cons (.c (.int 0)) (.cons (.c (.int 0)) (.cons (.c (.int 0)) .nil)))) .nil)))) (.cons (.tup (.cons (.c (.int 0)) (.cons (.c (.bl true)) (.cons (.tup (.cons (.c (.int 0)) (.cons (.c (.int 0)) (.cons (.c (.int 0)) .nil)))) .nil)))) .nil)))))))) .nil))) (.var 9)))
def rp7 : Sm := (.set 11 (.ife (.cmp .eq (.call 55 (.cons (.var 0) (.cons (.c (.int 3)) .nil))) (.c (.int 0))) (.call 56 (.cons (.var 0) (.cons (.lst (.cons (.c .non) (.cons (.tup (.cons (.c (.int 4)) (.cons (.c (.int 0)) (.cons (.tup (.cons (.c (.int 0)) (.cons (.c (.int 0)) (.cons (.c (.int 0)) .nil)))) .nil)))) (.cons (.tup (.cons (.c (.int 0)) (.cons (.c (.int 0)) .nil))) .nil)))) .nil))) (.var 9)))
def rp8 : Sm := (.set 12 (.ife (.cmp .eq (.call 55 (.cons (.var 0) (.cons (.c (.int 3)) .nil))) (.c (.int 0))) (.call 56 (.cons (.var 0) (.cons (.lst (.cons (.c .non) (.cons (.tup .nil) (.cons (.tup (.cons (.c (.int 2)) (.cons (.c (.int 0)) (.cons (.c (.int 0)) .nil)))) (.cons (.tup (.cons (.c (.int 0)) (.cons (.c (.int 0)) (.cons (.c (.int 2)) .nil)))) (.cons (.lst (.cons (.c (.int 0)) (.cons (.c (.int 0)) (.cons (.c (.int 0)) .nil)))) (.cons (.tup (.cons (.c (.int 0)) (.cons (.c (.int 0)) .nil))) (.cons (.tup (.cons (.c (.int 0)) (.cons (.c (.bl true)) (.cons (.c (.int 0)) .nil)))) .nil)))))))) .nil))) (.tup (.cons (.c (.int 1)) (.cons (.c (.int 0)) (.cons (.c (.int 0)) .nil))))))
def rp9 : Sm := (.set 13 (.ife (.cmp .eq (.call 55 (.cons (.var 0) (.cons (.c (.int 3)) .nil))) (.c (.int 0))) (.call 56 (.cons (.var 0) (.cons (.lst (.cons (.c .non) (.cons (.neg (.c (.int 1))) (.cons (.c (.int 3)) (.cons (.c (.bl true)) (.cons (.c (.str "0")) .nil)))))) .nil))) (.c (.int 1))))
def rp10 : Sm := (.set 14 (.tup (.cons (.tup (.cons (.tup (.cons (.c (.int 1)) (.cons (.c (.int 0)) (.cons (.c (.int 0)) .nil)))) (.cons (.c (.int 1)) .nil))) .nil)))
def rp11 : Sm := (.set 15 (.ife (.cmp .eq (.call 55 (.cons (.var 0) (.cons (.c (.int 3)) .nil))) (.c (.int 0))) (.call 56 (.cons (.var 0) (.cons (.lst (.cons (.c .non) (.cons (.lst .nil) (.cons (.tup (.cons (.tup (.cons (.tup (.cons (.c (.int 2)) (.cons (.c (.int 0)) (.cons (.c (.int 0)) .nil)))) (.cons (.c (.int 1)) .nil))) .nil)) (.cons (.tup (.cons (.tup (.cons (.tup (.cons (.c (.int 1)) (.cons (.c (.int 0)) (.cons (.c (.int 0)) .nil)))) (.cons (.c (.int 3)) .nil))) .nil)) (.cons (.tup (.cons (.tup (.cons (.tup (.cons (.c (.int 1)) (.cons (.c (.int 0)) (.cons (.c (.int 0)) .nil)))) .nil)) .nil)) (.cons (.bin .mul (.var 14) (.c (.int 41))) (.cons (.tup (.cons (.c (.int 1)) .nil)) .nil)))))))) .nil))) (.var 14)))
def rp12 : Sm := (.set 16 (.ife (.cmp .eq (.call 55 (.cons (.var 0) (.cons (.c (.int 3)) .nil))) (.c (.int 0))) (.call 56 (.cons (.var 0) (.cons (.lst (.cons (.c .non) (.cons (.neg (.c (.int 1))) (.cons (.c (.int 41)) (.cons (.c (.bl true)) (.cons (.c (.str "0")) .nil)))))) .nil))) (.c (.int 3))))
def rp13 : Sm := (.par3 17 18 19 (.ife (.cmp .ne (.bi .repr (.cons (.var 8) .nil)) (.bi .repr (.cons (.var 1) .nil))) (.lst (.cons (.tup (.cons (.c (.str "mill")) (.cons (.var 8) .nil))) .nil)) (.lst .nil)) (.ife (.cmp .ne (.bi .repr (.cons (.var 10) .nil)) (.bi .repr (.cons (.var 9) .nil))) (.lst (.cons (.tup (.cons (.c (.str "state")) (.cons (.var 10) .nil))) .nil)) (.lst .nil)) (.ife (.cmp .ne (.bi .repr (.cons (.var 11) .nil)) (.bi .repr (.cons (.var 9) .nil))) (.lst (.cons (.tup (.cons (.c (.str "state")) (.cons (.var 11) .nil))) .nil)) (.lst .nil)))
def rp14 : Sm := (.par2 20 21 (.ife (.cmp .ne (.bi .repr (.cons (.var 12) .nil)) (.bi .repr (.cons (.tup (.cons (.c (.int 1)) (.cons (.c (.int 0)) (.cons (.c (.int 0)) .nil)))) .nil))) (.lst (.cons (.tup (.cons (.c (.str "trim")) (.cons (.var 12) .nil))) .nil)) (.lst .nil)) (.ife (.cmp .ne (.bi .repr (.cons (.var 13) .nil)) (.c (.str "1"))) (.lst (.cons (.tup (.cons (.c (.str "wind")) (.cons (.var 13) .nil))) .nil)) (.lst .nil)))
def rp15 : Sm := (.par2 22 23 (.ife (.cmp .ne (.bi .repr (.cons (.var 15) .nil)) (.bi .repr (.cons (.var 14) .nil))) (.lst (.cons (.tup (.cons (.c (.str "day")) (.cons (.var 15) .nil))) .nil)) (.lst .nil)) (.ife (.cmp .ne (.bi .repr (.cons (.var 16) .nil)) (.c (.str "3"))) (.lst (.cons (.tup (.cons (.c (.str "ticks")) (.cons (.var 16) .nil))) .nil)) (.lst .nil)))
/-- _law_right: what stands ahead of the looks -/
def rtPre : Sms := (.cons rp0 (.cons rp1 (.cons rp2 (.cons rp3 (.cons rp4 (.cons rp5 (.cons rp6 (.cons rp7 (.cons rp8 (.cons rp9 (.cons rp10 (.cons rp11 (.cons rp12 (.cons rp13 (.cons rp14 (.cons rp15 .nil))))))))))))))))
def lk0 : LkB := ⟨["mill"], [8], (.call 14 (.cons (.var 0) (.cons (.c .non) .nil))), (.var 17)⟩
def lk1 : LkB := ⟨["mill"], [8], (.call 16 (.cons (.var 0) .nil)), (.var 17)⟩
def lk2 : LkB := ⟨["mill"], [8], (.call 17 (.cons (.var 0) .nil)), (.var 17)⟩
def lk3 : LkB := ⟨["mill", "trim"], [8, 12], (.call 22 (.cons (.var 0) (.cons (.var 1) .nil))), (.bin .add (.var 17) (.var 20))⟩
def lk4 : LkB := ⟨["mill", "wind"], [8, 13], (.call 23 (.cons (.var 0) (.cons (.var 1) .nil))), (.bin .add (.var 17) (.var 21))⟩
def lk5 : LkB := ⟨["mill", "trim"], [8, 12], (.call 24 (.cons (.var 0) (.cons (.var 1) (.cons (.tup (.cons (.c (.int 0)) (.cons (.c (.int 0)) (.cons (.c (.int 0)) .nil)))) .nil)))), (.bin .add (.var 17) (.var 20))⟩
def lk6 : LkB := ⟨["mill", "trim"], [8, 12], (.call 24 (.cons (.var 0) (.cons (.tup (.cons (.c (.int 0)) (.cons (.c (.int 0)) (.cons (.c (.int 0)) .nil)))) (.cons (.var 1) .nil)))), (.bin .add (.var 17) (.var 20))⟩
def lk7 : LkB := ⟨["mill", "state", "trim", "wind"], [8, 10, 12, 13], (.call 29 (.cons (.var 0) (.cons (.var 1) (.cons (.var 2) (.cons (.var 3) .nil))))), (.bin .add (.bin .add (.bin .add (.var 17) (.var 18)) (.var 20)) (.var 21))⟩
def lk8 : LkB := ⟨["mill", "state", "trim", "wind"], [8, 10, 12, 13], (.call 31 (.cons (.var 0) (.cons (.var 1) (.cons (.var 2) (.cons (.var 3) .nil))))), (.bin .add (.bin .add (.bin .add (.var 17) (.var 18)) (.var 20)) (.var 21))⟩
def lk9 : LkB := ⟨["mill", "state", "trim", "wind"], [8, 10, 12, 13], (.call 32 (.cons (.var 0) (.cons (.var 1) (.cons (.var 2) (.cons (.var 3) .nil))))), (.bin .add (.bin .add (.bin .add (.var 17) (.var 18)) (.var 20)) (.var 21))⟩
def lk10 : LkB := ⟨["mill", "state", "trim"], [8, 10, 12], (.call 34 (.cons (.var 0) (.cons (.var 1) (.cons (.var 2) .nil)))), (.bin .add (.bin .add (.var 17) (.var 18)) (.var 20))⟩
def lk11 : LkB := ⟨["mill", "state", "day"], [8, 10, 15], (.call 41 (.cons (.var 0) (.cons (.var 1) (.cons (.var 2) .nil)))), (.bin .add (.bin .add (.var 17) (.var 18)) (.var 22))⟩
def lk12 : LkB := ⟨["mill", "state", "day"], [8, 10, 15], (.call 42 (.cons (.var 0) (.cons (.var 1) (.cons (.var 2) .nil)))), (.bin .add (.bin .add (.var 17) (.var 18)) (.var 22))⟩
def lk13 : LkB := ⟨["mill", "state"], [8, 10], (.call 44 (.cons (.var 0) (.cons (.var 1) .nil))), (.bin .add (.var 17) (.var 18))⟩
def lk14 : LkB := ⟨["mill", "state", "other"], [8, 10, 11], (.call 47 (.cons (.var 0) (.cons (.var 1) (.cons (.var 2) .nil)))), (.bin .add (.bin .add (.var 17) (.var 18)) (.var 19))⟩
def lk15 : LkB := ⟨["mill", "state", "other"], [8, 10, 11], (.call 48 (.cons (.var 0) (.cons (.var 1) (.cons (.var 2) (.cons (.c .non) .nil))))), (.bin .add (.bin .add (.var 17) (.var 18)) (.var 19))⟩
def lk16 : LkB := ⟨["mill", "state", "ticks"], [8, 10, 16], (.call 52 (.cons (.var 0) (.cons (.var 1) (.cons (.var 2) .nil)))), (.bin .add (.bin .add (.var 17) (.var 18)) (.var 23))⟩
def lk17 : LkB := ⟨["mill", "state", "ticks"], [8, 10, 16], (.call 53 (.cons (.var 0) (.cons (.var 1) (.cons (.var 2) (.cons (.c .non) .nil))))), (.bin .add (.bin .add (.var 17) (.var 18)) (.var 23))⟩
def isrT : Sms := (.cons (.ifS (.cmp .is (.var 1) (.c .non)) (.cons (.ret (.cmp .is (.var 2) (.c .non))) .nil) .nil) (.cons (.set 3 (.dsp (.cons (.c (.str "mill")) (.cons (.bi .isi (.cons (.var 2) (.cons (.gl 17) .nil))) (.cons (.c (.str "state")) (.cons (.bi .isi (.cons (.var 2) (.cons (.gl 18) .nil))) (.cons (.c (.str "trim")) (.cons (.bi .isi (.cons (.var 2) (.cons (.gl 20) .nil))) .nil)))))))) (.cons (.doE (.me .update (.var 3) (.cons (.dsp (.cons (.c (.str "wind")) (.cons (.bi .isi (.cons (.var 2) (.cons (.gl 21) .nil))) (.cons (.c (.str "day")) (.cons (.bi .isi (.cons (.var 2) (.cons (.gl 16) .nil))) (.cons (.c (.str "ticks")) (.cons (.bi .isi (.cons (.var 2) (.cons (.gl 19) .nil))) .nil))))))) .nil))) (.cons (.ret (.and (.cons (.idx (.var 3) (.idx (.var 1) (.c (.int 0)))) (.cons (.cmp .eq (.bi .repr (.cons (.xv (.var 2)) .nil)) (.bi .repr (.cons (.idx (.var 1) (.c (.int 1))) .nil))) .nil)))) .nil))))
def rtD : RtD := ⟨rtPre, 16, lk0, [lk1, lk2, lk3, lk4, lk5, lk6, lk7, lk8, lk9, lk10, lk11, lk12, lk13, lk14, lk15, lk16, lk17], 24, 25, 26, isrT, ["call", "due", "caught", "marks"]⟩
def iR : Nat := 60
def iC : Nat := 58
def iI : Nat := 59
def iL : Nat := 61
def rtN : List PySem.Str := ["pot", "fine", "top", "air", "gear", "band", "hands", "bad", "mill", "calm", "state", "other", "trim", "wind", "good", "day", "ticks", "m", "s", "o", "t", "w", "d", "k", "looks", "look", "due"]
end K86
end Vi
/-! text Ld1 -/
set_option Elab.async false
set_option linter.all false
set_option maxRecDepth 100000
set_option maxHeartbeats 4000000
namespace Vi
open PySem PySem.Spec PyProof.Rows L2
namespace K86
def clL : List Str := ["MillError", "BadDay", "BadMill", "BadState", "BadTicks", "BadTrim", "BadWind", "Far", "Gust", "Runaway", "Stuck"]
abbrev gv : Nat → D := gvOf clL gnL
abbrev ar : Nat → Nat := fun j => ((prog[j]?).map (·.ps.length)).getD 0
abbrev ext : Xt := fun i => if i = iR then some (rtM gv ar rtD) else none
abbrev Ψ (k : Nat) : Nat → Cf := sem gv prog ext k
theorem sem_at {k i : Nat} {v : DefV} (h : prog[i]? = some v) (hi : i ≠ iR) : Ψ (k + 1) i = cfOf v.N.length (runs gv ar (Ψ k) v.ast) := by
  show (match prog[i]? with | some v => cfOf v.N.length (bodyM gv ar ext i v.ast (Ψ k)) | none => _) = _
  rw [h]
  unfold bodyM
  have : ext i = none := if_neg hi
  rw [this]
theorem take1 {k j : Nat} {h : List D} {a b n u : Int} (hj : h[j]? = some (.lst [.int a, .int b, .int n])) (ha : 0 < a) (hu : 0 < u) (hu2 : u < 1000) :
    Ψ (k + 1) 55 [.ref j, .int u] h = .ok (.int (a.fmod u)) false (h.set j (.lst [.int (a.fdiv u), .int b, .int n])) := by
  rw [sem_at (v := v55) rfl (by decide)]
  have hu0 : u ≠ 0 := by omega
  have hu3 : u.natAbs < 1073741824 := by omega
  simp [v55, cfOf, runs, run, ev4, evs4, rgV, rgT, mSeq, mThen, mIfS, mTestB, mCmp, mIdx, Vi.bind, mVar, mC, ret, rdh, rd, deref, idxD, opt, L2.atI, L2.ixN, hj, cmp, cmpI, ha, mSet, mBi, mOCons, mONil, rdhs, kInt, Bi.k, op2, modD, fdivD, hu0, hu3, norm, put1, mSetIx, esc, upM, fSet, mRet, mSkip]
theorem log_le {i : Int} {m : Nat} (h : i.natAbs < 2 ^ m) : i.natAbs.log2 ≤ m := by
  rcases Nat.eq_zero_or_pos i.natAbs with z | z
  · rw [z]; exact Nat.zero_le _
  · exact Nat.le_of_lt ((Nat.log2_lt (by omega)).mpr h)
theorem mul_ok {i j : Int} (m n : Nat) (hi : i.natAbs < 2 ^ m) (hj : j.natAbs < 2 ^ n) (h : m + n < 1000000) : mulD (.int i) (.int j) = ret (.v (.int (i * j))) := by
  have a := log_le hi
  have b := log_le hj
  unfold mulD
  dsimp only
  rw [if_pos (by omega)]
theorem pow_ok {i : Int} (m k : Nat) (hi : i.natAbs < 2 ^ m) (h : m * k ≤ 134217728) : powD (.int i) (.int k) = ret (.v (.int (i ^ k))) := by
  have a := intBits_le_iff.mpr hi
  unfold powD
  dsimp only
  have b : Builtin.Int.intBits i * k ≤ m * k := Nat.mul_le_mul_right k a
  rw [if_pos ⟨by omega, by
    have : ((Builtin.Int.intBits i * k : Nat) : Int) ≤ 134217728 := by omega
    simpa using this⟩]
  simp
theorem take2 {k j : Nat} {h : List D} {a b n u : Int} (hj : h[j]? = some (.lst [.int a, .int b, .int n])) (ha : ¬ 0 < a) (hu : 0 < u) (hu2 : u < 1000) (hb : 0 ≤ b ∧ b < 2 ^ 62) (hn : 0 ≤ n ∧ n < 2 ^ 20) :
    ∃ d : Int, 0 ≤ d ∧ d < u ∧ Ψ (k + 1) 55 [.ref j, .int u] h = .ok (.int d) false (h.set j (.lst [.int a, .int b, .int (n + 1)])) := by
  rw [sem_at (v := v55) rfl (by decide)]
  have hu0 : u ≠ 0 := by omega
  have hu3 : u.natAbs < 1073741824 := by omega
  have hjl : j < h.length := by
    rcases Nat.lt_or_ge j h.length with z | z
    · exact z
    · rw [List.getElem?_eq_none z] at hj; cases hj
  have hj2 : h[j] = .lst [.int a, .int b, .int n] := by
    rw [List.getElem?_eq_getElem hjl] at hj
    exact Option.some.inj hj
  have l4 : 4 ≤ line := by decide
  have sq : 0 ≤ 126069 * (n + 1) * (n + 1) ∧ 126069 * (n + 1) * (n + 1) ≤ 126069 * 2 ^ 20 * 2 ^ 20 := by
    have z1 : 0 ≤ 126069 * (n + 1) := by omega
    have z2 : 126069 * (n + 1) ≤ 126069 * 2 ^ 20 := by omega
    exact ⟨Int.mul_nonneg z1 (by omega), Int.mul_le_mul z2 (by omega) (by omega) (by omega)⟩
  have m1 : mulD (.int 126069) (.int (n + 1)) = ret (.v (.int (126069 * (n + 1)))) := mul_ok 20 30 (by decide) (by omega) (by decide)
  have m2 : mulD (.int (126069 * (n + 1))) (.int (n + 1)) = ret (.v (.int (126069 * (n + 1) * (n + 1)))) := mul_ok 50 30 (by omega) (by omega) (by decide)
  have m3 : mulD (.int 2356) (.int (n + 1)) = ret (.v (.int (2356 * (n + 1)))) := mul_ok 20 30 (by decide) (by omega) (by decide)
  generalize eX : b + 126069 * (n + 1) * (n + 1) + 3154 = X at *
  have p1 : powD (.int X) (.int 3) = ret (.v (.int (X ^ 3))) := pow_ok 64 3 (by omega) (by decide)
  have e4 : (n + 1).fmod 4 = 0 ∨ (n + 1).fmod 4 = 1 ∨ (n + 1).fmod 4 = 2 ∨ (n + 1).fmod 4 = 3 := by
    rw [Int.fmod_eq_emod_of_nonneg _ (by omega)]; omega
  have fin : ∀ p : Int, 0 < p → p < 2 ^ 31 → ∃ c : Int, mulD (.int ((X ^ 3).fmod p)) (.int (((X ^ 3).fmod p).fmod 10007 + 2356 * (n + 1))) = ret (.v (.int c)) := fun p h1 h2 => by
    have b1 := Int.fmod_nonneg_of_pos (X ^ 3) h1
    have b2 := Int.fmod_lt_of_pos (X ^ 3) h1
    have c1 := Int.fmod_nonneg_of_pos ((X ^ 3).fmod p) (b := 10007) (by omega)
    have c2 := Int.fmod_lt_of_pos ((X ^ 3).fmod p) (b := 10007) (by omega)
    exact ⟨_, mul_ok 31 60 (by omega) (by omega) (by decide)⟩
  rcases e4 with e | e | e | e
  · obtain ⟨c, m4⟩ := fin 2147483647 (by omega) (by omega)
    refine ⟨(c.fdiv 307).fmod u, Int.fmod_nonneg_of_pos _ hu, Int.fmod_lt_of_pos _ hu, ?_⟩
    simp [v55, cfOf, runs, run, ev4, evs4, rgV, rgT, mSeq, mThen, mIfS, mTestB, mCmp, mIdx, Vi.bind, mVar, mC, ret, rdh, rd, deref, idxD, opt, L2.atI, L2.ixN, hj2, hjl, cmp, cmpI, ha, mSet, mBi, mOCons, mONil, rdhs, kInt, Bi.k, op2, modD, fdivD, addD, mLst, mCons, mNil, hu0, hu3, norm, put1, mSetIx, esc, upM, fSet, mRet, mSkip, l4, e, m1, m2, m3, eX, p1, m4]
  · obtain ⟨c, m4⟩ := fin 2147483629 (by omega) (by omega)
    refine ⟨(c.fdiv 307).fmod u, Int.fmod_nonneg_of_pos _ hu, Int.fmod_lt_of_pos _ hu, ?_⟩
    simp [v55, cfOf, runs, run, ev4, evs4, rgV, rgT, mSeq, mThen, mIfS, mTestB, mCmp, mIdx, Vi.bind, mVar, mC, ret, rdh, rd, deref, idxD, opt, L2.atI, L2.ixN, hj2, hjl, cmp, cmpI, ha, mSet, mBi, mOCons, mONil, rdhs, kInt, Bi.k, op2, modD, fdivD, addD, mLst, mCons, mNil, hu0, hu3, norm, put1, mSetIx, esc, upM, fSet, mRet, mSkip, l4, e, m1, m2, m3, eX, p1, m4]
  · obtain ⟨c, m4⟩ := fin 2147483587 (by omega) (by omega)
    refine ⟨(c.fdiv 307).fmod u, Int.fmod_nonneg_of_pos _ hu, Int.fmod_lt_of_pos _ hu, ?_⟩
    simp [v55, cfOf, runs, run, ev4, evs4, rgV, rgT, mSeq, mThen, mIfS, mTestB, mCmp, mIdx, Vi.bind, mVar, mC, ret, rdh, rd, deref, idxD, opt, L2.atI, L2.ixN, hj2, hjl, cmp, cmpI, ha, mSet, mBi, mOCons, mONil, rdhs, kInt, Bi.k, op2, modD, fdivD, addD, mLst, mCons, mNil, hu0, hu3, norm, put1, mSetIx, esc, upM, fSet, mRet, mSkip, l4, e, m1, m2, m3, eX, p1, m4]
  · obtain ⟨c, m4⟩ := fin 2147483579 (by omega) (by omega)
    refine ⟨(c.fdiv 307).fmod u, Int.fmod_nonneg_of_pos _ hu, Int.fmod_lt_of_pos _ hu, ?_⟩
    simp [v55, cfOf, runs, run, ev4, evs4, rgV, rgT, mSeq, mThen, mIfS, mTestB, mCmp, mIdx, Vi.bind, mVar, mC, ret, rdh, rd, deref, idxD, opt, L2.atI, L2.ixN, hj2, hjl, cmp, cmpI, ha, mSet, mBi, mOCons, mONil, rdhs, kInt, Bi.k, op2, modD, fdivD, addD, mLst, mCons, mNil, hu0, hu3, norm, put1, mSetIx, esc, upM, fSet, mRet, mSkip, l4, e, m1, m2, m3, eX, p1, m4]
/-- the pot at j -/
def Good (h : List D) (j c : Nat) : Prop := ∃ a b n : Int, h[j]? = some (.lst [.int a, .int b, .int n]) ∧ 0 ≤ a ∧ (0 ≤ b ∧ b < 2 ^ 62) ∧ 0 ≤ n ∧ n ≤ c ∧ sameDs h h = true
theorem same_set {x : D} (hx : sameD x x = true) : ∀ {h : List D} {j : Nat}, sameDs h h = true → sameDs (h.set j x) (h.set j x) = true
  | [], _, _ => rfl
  | d :: h, 0, e => by
    simp only [sameDs, Bool.and_eq_true] at e
    show (sameD x x && sameDs h h) = true
    rw [hx, e.2]; rfl
  | d :: h, j + 1, e => by
    simp only [sameDs, Bool.and_eq_true] at e
    show (sameD d d && sameDs (h.set j x) (h.set j x)) = true
    rw [e.1, same_set hx e.2]; rfl
theorem same_pot (a b n : Int) : sameD (.lst [.int a, .int b, .int n]) (.lst [.int a, .int b, .int n]) = true := by
  simp [sameD, sameDs]
theorem Good.mono {h : List D} {j c c' : Nat} (g : Good h j c) (hc : c ≤ c') : Good h j c' := let ⟨a, b, n, h1, h2, h3, h4, h5, h6⟩ := g; ⟨a, b, n, h1, h2, h3, h4, by omega, h6⟩
theorem set_at {h : List D} {j : Nat} {x y : D} (e : h[j]? = some x) : (h.set j y)[j]? = some y := by
  rw [List.getElem?_set_self]
  rcases Nat.lt_or_ge j h.length with z | z
  · exact z
  · rw [List.getElem?_eq_none z] at e; cases e
theorem take_ok {k j c : Nat} {h : List D} {u : Int} (g : Good h j c) (hc : c < 1000000) (hu : 0 < u) (hu2 : u < 1000) :
    ∃ (d : Int) (h' : List D), 0 ≤ d ∧ d < u ∧ Ψ (k + 1) 55 [.ref j, .int u] h = .ok (.int d) false h' ∧ Good h' j (c + 1) ∧ h'.length = h.length := by
  obtain ⟨a, b, n, h1, h2, h3, h4, h5, h6⟩ := g
  by_cases ha : 0 < a
  · exact ⟨_, _, Int.fmod_nonneg_of_pos _ hu, Int.fmod_lt_of_pos _ hu, take1 h1 ha hu hu2, ⟨_, b, n, set_at h1, Int.fdiv_nonneg h2 (by omega), h3, h4, by omega, same_set (same_pot _ _ _) h6⟩, by rw [List.length_set]⟩
  · obtain ⟨d, d1, d2, e⟩ := take2 (k := k) h1 ha hu hu2 h3 ⟨h4, by omega⟩
    exact ⟨d, _, d1, d2, e, ⟨a, b, _, set_at h1, h2, h3, by omega, by omega, same_set (same_pot _ _ _) h6⟩, by rw [List.length_set]⟩
theorem of_ok {k j c : Nat} {h : List D} {menu : List D} (g : Good h j c) (hc : c < 1000000) (hm : 0 < menu.length) (hm2 : menu.length < 1000) :
    ∃ (d : D) (h' : List D), d ∈ menu ∧ Ψ (k + 2) 56 [.ref j, .lst menu] h = .ok d false h' ∧ Good h' j (c + 1) ∧ h'.length = h.length := by
  obtain ⟨i, h', i1, i2, e, g', hl⟩ := take_ok (k := k) (u := menu.length) g hc (by omega) (by omega)
  have hi : i.toNat < menu.length := by omega
  refine ⟨menu[i.toNat], h', List.getElem_mem hi, ?_, g', hl⟩
  rw [sem_at (v := v56) rfl (by decide)]
  have ha : ar 55 = 2 := rfl
  have ix : L2.atI menu i = some menu[i.toNat] := by
    have q : L2.ixN menu.length i = some i.toNat := by
      unfold L2.ixN
      rw [if_pos i1, if_pos i2]
    unfold L2.atI
    rw [q]; exact List.getElem?_eq_getElem hi
  have hn : menu ≠ [] := fun z => by rw [z] at hm; simp at hm
  simp [v56, cfOf, runs, run, ev4, evs4, rgV, rgT, mSeq, mThen, mIdx, Vi.bind, mVar, ret, rdh, rd, deref, idxD, opt, ix, mBi, mOCons, mONil, rdhs, Bi.k, kLen, esc, mCons, mNil, mCall, mCallC, ha, e, out, mRet]
abbrev pickE (i : Nat) (m dflt : Ex) : Sm := .set i (.ife (.cmp .eq (.call 55 (.cons (.var 0) (.cons (.c (.int 3)) .nil))) (.c (.int 0))) (.call 56 (.cons (.var 0) (.cons m .nil))) dflt)
theorem pick_ok {k j c i : Nat} {σ σ1 : List Sl} {h menu : List D} {d0 : D} {m dflt : Ex} (h0 : σ[0]? = some (.s (.ref j))) (g : Good h j c) (hc : c < 1000) (hm : 0 < menu.length) (hm2 : menu.length < 1000)
    (em : ∀ h', Vi.bind (ev4 gv ar (Ψ (k + 2)) m).v esc ⟨σ, h'⟩ = .ok (.lst menu) ⟨σ1, h'⟩) (ed : ∀ h', (ev4 gv ar (Ψ (k + 2)) dflt).v ⟨σ, h'⟩ = .ok (.v d0) ⟨σ, h'⟩) :
    ∃ (x : D) (σ' : List Sl) (h' : List D), ((x = d0 ∧ σ' = σ) ∨ (x ∈ menu ∧ σ' = σ1)) ∧ Good h' j (c + 2) ∧ h'.length = h.length ∧ run gv ar (Ψ (k + 2)) (pickE i m dflt) ⟨σ, h⟩ = .nx ⟨σ'.set i (.s x), h'⟩ := by
  obtain ⟨d, h1, i1, i2, e1, g1, l1⟩ := take_ok (k := k + 1) (u := 3) g (by omega) (by omega) (by omega)
  have a55 : ar 55 = 2 := rfl
  have a56 : ar 56 = 2 := rfl
  have et : (ev4 gv ar (Ψ (k + 2)) (.cmp .eq (.call 55 (.cons (.var 0) (.cons (.c (.int 3)) .nil))) (.c (.int 0)))).t ⟨σ, h⟩ = .ok (decide (d = 0)) ⟨σ, h1⟩ := by
    have eq3 : eqP (.int d) (.int 0) = some (decide (d = 0)) := by
      have : d = 0 ∨ d = 1 ∨ d = 2 := by omega
      rcases this with rfl | rfl | rfl <;> rfl
    simp [ev4, evs4, rgV, rgT, mTestB, mCmp, Vi.bind, mVar, mC, ret, rdh, rd, deref, h0, mCons, mNil, esc, mCall, mCallC, a55, e1, out, cmp, opt, eqD, eq3]
  by_cases hd : d = 0
  · obtain ⟨x, h2, hx, e2, g2, l2⟩ := of_ok (k := k) g1 (by omega) hm hm2
    have ev : (ev4 gv ar (Ψ (k + 2)) (.call 56 (.cons (.var 0) (.cons m .nil)))).v ⟨σ, h1⟩ = .ok (.v x) ⟨σ1, h2⟩ := by
      have em1 := em h1
      have q : mCons (mVar 0) (mCons (ev4 gv ar (Ψ (k + 2)) m).v mNil) ⟨σ, h1⟩ = .ok [.ref j, .lst menu] ⟨σ1, h1⟩ := by
        unfold mCons
        rw [bind_ok (show Vi.bind (mVar 0) esc ⟨σ, h1⟩ = .ok (.ref j) ⟨σ, h1⟩ by simp [Vi.bind, mVar, h0, esc, ret])]
        rw [bind_ok (show Vi.bind (Vi.bind (ev4 gv ar (Ψ (k + 2)) m).v esc) (fun d => Vi.bind mNil fun ds => ret (d :: ds)) ⟨σ, h1⟩ = .ok [.lst menu] ⟨σ1, h1⟩ by rw [bind_ok em1]; rfl)]
        rfl
      show Vi.bind (mCons (mVar 0) (mCons (ev4 gv ar (Ψ (k + 2)) m).v mNil)) (fun ds => if ds.length = ar 56 then mCallC (Ψ (k + 2) 56) ds else fail) ⟨σ, h1⟩ = _
      rw [bind_ok q]
      rw [a56]
      show mCallC (Ψ (k + 2) 56) [.ref j, .lst menu] ⟨σ1, h1⟩ = _
      unfold mCallC
      dsimp only
      rw [e2]; rfl
    refine ⟨x, σ1, h2, .inr ⟨hx, rfl⟩, g2, by omega, ?_⟩
    have eI : mIfe (ev4 gv ar (Ψ (k + 2)) (.cmp .eq (.call 55 (.cons (.var 0) (.cons (.c (.int 3)) .nil))) (.c (.int 0)))).t (ev4 gv ar (Ψ (k + 2)) (.call 56 (.cons (.var 0) (.cons m .nil)))).v (ev4 gv ar (Ψ (k + 2)) dflt).v ⟨σ, h⟩ = .ok (.v x) ⟨σ1, h2⟩ := by
      unfold mIfe
      rw [bind_ok et, if_pos (decide_eq_true hd)]
      exact ev
    show mThen (Vi.bind (mIfe _ _ _) norm) (put1 i) ⟨σ, h⟩ = _
    unfold mThen
    rw [bind_ok eI]
    rfl
  · refine ⟨d0, σ, h1, .inl ⟨rfl, rfl⟩, g1.mono (by omega), l1, ?_⟩
    have eI : mIfe (ev4 gv ar (Ψ (k + 2)) (.cmp .eq (.call 55 (.cons (.var 0) (.cons (.c (.int 3)) .nil))) (.c (.int 0)))).t (ev4 gv ar (Ψ (k + 2)) (.call 56 (.cons (.var 0) (.cons m .nil)))).v (ev4 gv ar (Ψ (k + 2)) dflt).v ⟨σ, h⟩ = .ok (.v d0) ⟨σ, h1⟩ := by
      unfold mIfe
      rw [bind_ok et, if_neg (fun z => hd (of_decide_eq_true z))]
      exact ed h1
    show mThen (Vi.bind (mIfe _ _ _) norm) (put1 i) ⟨σ, h⟩ = _
    unfold mThen
    rw [bind_ok eI]
    rfl
end K86
end Vi
/-! text Ld2 -/
set_option Elab.async false
set_option linter.all false
set_option maxRecDepth 100000
set_option maxHeartbeats 4000000
namespace Vi
open PySem PySem.Spec PyProof.Rows L2
namespace K86
def iv (l : List Int) : D := .tup (l.map .int)
def airD : D := iv [2, 1]
def gearD : D := .tup [.tup [iv [0, 0, 0], iv [0, 1, 2]], iv [0, 1], iv [0, 1]]
def bandD : D := iv [1, 2]
def fineD : D := .tup [.int 3, airD, gearD, bandD, .int 1]
def badM : List D := [.non, .tup [], .tup [.int 3, airD, gearD, bandD], .lst [.int 3, airD, gearD, bandD, .int 1], .tup [.int 0, airD, gearD, iv [0, 0], .int 1], .tup [.int 13, airD, gearD, bandD, .int 1],
  .tup [.int 3, iv [5, 0], gearD, bandD, .int 1], .tup [.int 3, airD, .tup [.tup [iv [0, 0, 0], iv [0, 1, 2]], iv [0, 1]], bandD, .int 1], .tup [.int 3, airD, gearD, iv [2, 1], .int 1]]
def z3 : D := iv [0, 0, 0]
def calmD : D := .tup [.int 0, .int 0, z3]
def badS : List D := [.non, .tup [], .tup [.int 4, .int 0, z3], .tup [.int 0, .int 3, z3], .tup [.int 0, .int 0, iv [2, 0, 0]], .lst [.int 0, .int 0, z3], .tup [.int 0, .bl true, z3]]
def badO : List D := [.non, .tup [.int 4, .int 0, z3], iv [0, 0]]
def trimD : D := iv [1, 0, 0]
def badT : List D := [.non, .tup [], iv [2, 0, 0], iv [0, 0, 2], .lst [.int 0, .int 0, .int 0], iv [0, 0], .tup [.int 0, .bl true, .int 0]]
def badW : List D := [.non, .int (-1), .int 3, .bl true, .str "0"]
def tickD : D := .tup [trimD, .int 1]
def goodD : D := .tup [tickD]
def badD : List D := [.non, .lst [], .tup [.tup [iv [2, 0, 0], .int 1]], .tup [.tup [trimD, .int 3]], .tup [.tup [trimD]], .tup (List.replicate 41 tickD), iv [1]]
def badK : List D := [.non, .int (-1), .int 41, .bl true, .str "0"]
def sg (j : Nat) (y mill calm state other trim wind good day ticks m s o t w d k : Sl) : List Sl := [.s (.ref j), .s fineD, .s (.int 3), .s airD, .s gearD, .s bandD, .s (.int 1), y, mill, calm, state, other, trim, wind, good, day, ticks, m, s, o, t, w, d, k, .e, .e, .e]
def IsP (good : D) (bad : List D) (nm : Str) (x : D) (l : List D) : Prop := (x = good ∧ l = []) ∨ (x ∈ bad ∧ l = [.tup [.str nm, x]])
theorem seq_step {Φ : Nat → Cf} {s : Sm} {r : Sms} {S S' : St} (e : run gv ar Φ s S = .nx S') : runs gv ar Φ (.cons s r) S = runs gv ar Φ r S' := by
  show mSeq (run gv ar Φ s) (runs gv ar Φ r) S = _
  unfold mSeq
  rw [e]
theorem par3_ok {a b c : M O} {i j l : Nat} {S : St} {x y z : D} (h1 : a S = .ok (.w x) S) (h2 : b S = .ok (.w y) S) (h3 : c S = .ok (.w z) S) : mPar [i, j, l] (mOCons a (mOCons b (mOCons c mONil))) S = .nx { S with σ := ((S.σ.set i (.o x)).set j (.o y)).set l (.o z) } := by
  unfold mPar mThen mOCons
  rw [bind_ok h1, bind_ok (show Vi.bind b (fun o => Vi.bind (Vi.bind c fun o => Vi.bind mONil fun os => ret (o :: os)) fun os => ret (o :: os)) S = .ok [.w y, .w z] S by rw [bind_ok h2, bind_ok (show Vi.bind c (fun o => Vi.bind mONil fun os => ret (o :: os)) S = .ok [.w z] S by rw [bind_ok h3]; rfl)]; rfl)]
  rfl
theorem par2_ok {a b : M O} {i j : Nat} {S : St} {x y : D} (h1 : a S = .ok (.w x) S) (h2 : b S = .ok (.w y) S) : mPar [i, j] (mOCons a (mOCons b mONil)) S = .nx { S with σ := (S.σ.set i (.o x)).set j (.o y) } := by
  unfold mPar mThen mOCons
  rw [bind_ok h1, bind_ok (show Vi.bind b (fun o => Vi.bind mONil fun os => ret (o :: os)) S = .ok [.w y] S by rw [bind_ok h2]; rfl)]
  rfl
/-! the day menu's long one: its repr is too long for the kernel -/
def bigD : D := .tup (List.replicate 41 tickD)
def tickP : PyData := .tuple [.tuple [.int 1, .int 0, .int 0], .int 1]
def bigP : PyData := .tuple (List.replicate 41 tickP)
theorem rep_shown (p : PyData) : ∀ n : Nat, PyData.shownAll (List.replicate n p) = List.replicate n p.shown
  | 0 => rfl
  | n + 1 => by
    show p.shown :: PyData.shownAll (List.replicate n p) = _
    rw [rep_shown p n]; rfl
theorem rep_piled (t : Str) : ∀ n : Nat, piled (List.replicate n t) = n * (t.length + 2)
  | 0 => by simp [piled]
  | n + 1 => by
    rw [List.replicate_succ, piled_cons, rep_piled t n, Nat.succ_mul]; omega
theorem tick_len : tickP.shown.length = 14 := by kernel_rfl
theorem big_len : bigP.shown.length = 656 := by
  show (tupleText (PyData.shownAll (List.replicate 41 tickP))).length = 656
  rw [rep_shown]
  have j := join_length_add (List.replicate 41 tickP.shown) (by simp)
  rw [rep_piled, tick_len] at j
  unfold tupleText
  rw [Str.length_append, Str.length_append, if_neg (by simp)]
  have e1 : (("(" : String) : Str).length = 1 := rfl
  have e2 : ((")" : String) : Str).length = 1 := rfl
  rw [e1, e2]
  omega
theorem kr_big (S : St) : kRepr [bigD] S = .ok (.v (.str bigP.shown)) S := by
  have e : bigD.py = some bigP := by kernel_rfl
  have s1 : bigP.showable = true := by kernel_rfl
  have s2 : bigP.hasDict = false := by kernel_rfl
  have s3 : dpt bigD ≤ 60 := by decide +kernel
  unfold kRepr
  dsimp only
  rw [e]
  dsimp only
  rw [if_pos (by rw [s1, s2, big_len]; simp [s3, line])]
  rfl
theorem ok_app {a b : Str} (ha : PyData.strOk a = true) (hb : PyData.strOk b = true) : PyData.strOk (a ++ b) = true := by
  unfold PyData.strOk at *
  rw [Str.cps_append, Array.all_append, ha, hb]; rfl
theorem ok_join {t : Str} (ht : PyData.strOk t = true) : ∀ n : Nat, PyData.strOk (Str.join ", " (List.replicate n t)) = true
  | 0 => by kernel_rfl
  | 1 => ht
  | n + 2 => by
    show PyData.strOk (t ++ ", " ++ Str.join ", " (List.replicate (n + 1) t)) = true
    exact ok_app (ok_app ht (by kernel_rfl)) (ok_join ht (n + 1))
theorem big_ok : PyData.strOk bigP.shown = true := by
  show PyData.strOk (tupleText (PyData.shownAll (List.replicate 41 tickP))) = true
  rw [rep_shown]
  unfold tupleText
  rw [if_neg (by simp)]
  exact ok_app (ok_app (by kernel_rfl) (ok_join (by kernel_rfl) 41)) (by kernel_rfl)
theorem eq_str {a b : Str} (ha : PyData.strOk a = true) (hb : PyData.strOk b = true) : eqP (.str a) (.str b) = some (a == b) := by
  have q : ∀ {c : Str}, PyData.strOk c = true → SeqAt.shaped (.str c) = true := fun {c} h => by
    show (PyData.strOk c && decide (PyData.depth (.str c) ≤ 64)) = true
    rw [h]; rfl
  show (if SeqAt.shaped (.str a) && SeqAt.shaped (.str b) then some (PyData.eqv (.str a) (.str b)) else none) = _
  rw [q ha, q hb]
  rfl
theorem big_ne : eqP (.str bigP.shown) (.str "(((1, 0, 0), 1),)") = some false := by
  have z : bigP.shown ≠ "(((1, 0, 0), 1),)" := fun z => by
    have q := congrArg Str.length z
    rw [big_len, show (("(((1, 0, 0), 1),)" : String) : Str).length = 17 by kernel_rfl] at q
    cases q
  have e := eq_str (a := bigP.shown) (b := "(((1, 0, 0), 1),)") big_ok (by kernel_rfl)
  rw [beq_false_of_ne z] at e
  exact e
theorem ex_gen {Φ : Nat → Cf} {S : St} {i : Nat} {x : D} {r : Ex} {sx sr nm : Str} (h1 : S.σ[i]? = some (.s x)) (hx : deref x S = .ok x S) (k1 : kRepr [x] S = .ok (.v (.str sx)) S) (k2 : (ev4 gv ar Φ r).v S = .ok (.v (.str sr)) S) (hne : eqP (.str sx) (.str sr) = some false) :
    (ev4 gv ar Φ (.ife (.cmp .ne (.bi .repr (.cons (.var i) .nil)) r) (.lst (.cons (.tup (.cons (.c (.str nm)) (.cons (.var i) .nil))) .nil)) (.lst .nil))).v S = .ok (.w (.lst [.tup [.str nm, x]])) S := by
  have l1 : 1 ≤ line := by decide
  have l2 : 2 ≤ line := by decide
  have ev : mVar i S = .ok (.v x) S := by unfold mVar; rw [h1]
  have er : rdh (.v x) S = .ok x S := hx
  have e1 : mBi (Bi.k (xcN gv) .repr) (mOCons (mVar i) mONil) S = .ok (.v (.str sx)) S := by
    unfold mBi
    rw [bind_ok (show mOCons (mVar i) mONil S = .ok [.v x] S by unfold mOCons; rw [bind_ok ev]; rfl)]
    rw [bind_ok (show rdhs [.v x] S = .ok [x] S by unfold rdhs; rw [bind_ok er]; rfl)]
    exact k1
  have e2 : (ev4 gv ar Φ (.cmp .ne (.bi .repr (.cons (.var i) .nil)) r)).t S = .ok true S := by
    show Vi.bind (mCmp .ne (mBi (Bi.k (xcN gv) .repr) (mOCons (mVar i) mONil)) (ev4 gv ar Φ r).v) _ S = _
    have e3 : mCmp .ne (mBi (Bi.k (xcN gv) .repr) (mOCons (mVar i) mONil)) (ev4 gv ar Φ r).v S = .ok (.v (.bl true)) S := by
      unfold mCmp
      rw [bind_ok e1, bind_ok k2]
      show Vi.bind (opt (eqD (.str sx) (.str sr))) (fun b => ret (O.v (.bl (!b)))) S = _
      have e4 : eqD (.str sx) (.str sr) = some false := hne
      rw [e4]; rfl
    rw [bind_ok e3]; rfl
  show mIfe (ev4 gv ar Φ (.cmp .ne (.bi .repr (.cons (.var i) .nil)) r)).t _ _ S = _
  unfold mIfe
  rw [bind_ok e2, if_pos rfl]
  show mLst (mCons (mTup (mCons (mC (.str nm)) (mCons (mVar i) mNil))) mNil) S = _
  have e5 : mCons (mC (.str nm)) (mCons (mVar i) mNil) S = .ok [.str nm, x] S := by
    unfold mCons
    rw [bind_ok (show Vi.bind (mC (.str nm)) esc S = .ok (.str nm) S from rfl)]
    rw [bind_ok (show Vi.bind (Vi.bind (mVar i) esc) (fun d => Vi.bind mNil fun ds => ret (d :: ds)) S = .ok [x] S by rw [bind_ok (show Vi.bind (mVar i) esc S = .ok x S by rw [bind_ok ev]; rfl)]; rfl)]
    rfl
  have e6 : mTup (mCons (mC (.str nm)) (mCons (mVar i) mNil)) S = .ok (.v (.tup [.str nm, x])) S := by
    unfold mTup
    rw [bind_ok e5]
    show (if 2 ≤ line then _ else _ : M O) S = _
    rw [if_pos l2]; rfl
  generalize mTup (mCons (mC (.str nm)) (mCons (mVar i) mNil)) = mm at e6 ⊢
  have e7 : mCons mm mNil S = .ok [.tup [.str nm, x]] S := by
    unfold mCons
    rw [bind_ok (show Vi.bind mm esc S = .ok (.tup [.str nm, x]) S by rw [bind_ok e6]; rfl)]
    rfl
  unfold mLst
  rw [bind_ok e7]
  show (if 1 ≤ line then _ else _ : M O) S = _
  rw [if_pos l1]; rfl
end K86
end Vi
/-! text Ld3 -/
set_option Elab.async false
set_option linter.all false
set_option maxRecDepth 100000
set_option maxHeartbeats 4000000
namespace Vi
open PySem PySem.Spec PyProof.Rows L2
namespace K86
abbrev xm : Ex := .ife (.cmp .ne (.bi .repr (.cons (.var 8) .nil)) (.bi .repr (.cons (.var 1) .nil))) (.lst (.cons (.tup (.cons (.c (.str "mill")) (.cons (.var 8) .nil))) .nil)) (.lst .nil)
theorem em_ok {j : Nat} {y state other trim wind day ticks m s o t w d k : Sl} {h l : List D} {x : D} (p : IsP fineD badM "mill" x l) : (ev4 gv ar (Ψ 10) xm).v ⟨sg j y (.s x) (.s calmD) state other trim wind (.s goodD) day ticks m s o t w d k, h⟩ = .ok (.w (.lst l)) ⟨sg j y (.s x) (.s calmD) state other trim wind (.s goodD) day ticks m s o t w d k, h⟩ := by
  rcases p with ⟨rfl, rfl⟩ | ⟨hx, rfl⟩
  · kernel_rfl
  · simp only [badM, List.mem_cons, List.not_mem_nil, or_false] at hx
    rcases hx with rfl | rfl | rfl | rfl | rfl | rfl | rfl | rfl | rfl
    · kernel_rfl
    · kernel_rfl
    · kernel_rfl
    · kernel_rfl
    · kernel_rfl
    · kernel_rfl
    · kernel_rfl
    · kernel_rfl
    · kernel_rfl
abbrev xs : Ex := .ife (.cmp .ne (.bi .repr (.cons (.var 10) .nil)) (.bi .repr (.cons (.var 9) .nil))) (.lst (.cons (.tup (.cons (.c (.str "state")) (.cons (.var 10) .nil))) .nil)) (.lst .nil)
theorem es_ok {j : Nat} {y mill other trim wind day ticks m s o t w d k : Sl} {h l : List D} {x : D} (p : IsP calmD badS "state" x l) : (ev4 gv ar (Ψ 10) xs).v ⟨sg j y mill (.s calmD) (.s x) other trim wind (.s goodD) day ticks m s o t w d k, h⟩ = .ok (.w (.lst l)) ⟨sg j y mill (.s calmD) (.s x) other trim wind (.s goodD) day ticks m s o t w d k, h⟩ := by
  rcases p with ⟨rfl, rfl⟩ | ⟨hx, rfl⟩
  · kernel_rfl
  · simp only [badS, List.mem_cons, List.not_mem_nil, or_false] at hx
    rcases hx with rfl | rfl | rfl | rfl | rfl | rfl | rfl
    · kernel_rfl
    · kernel_rfl
    · kernel_rfl
    · kernel_rfl
    · kernel_rfl
    · kernel_rfl
    · kernel_rfl
abbrev xo : Ex := .ife (.cmp .ne (.bi .repr (.cons (.var 11) .nil)) (.bi .repr (.cons (.var 9) .nil))) (.lst (.cons (.tup (.cons (.c (.str "state")) (.cons (.var 11) .nil))) .nil)) (.lst .nil)
theorem eo_ok {j : Nat} {y mill state trim wind day ticks m s o t w d k : Sl} {h l : List D} {x : D} (p : IsP calmD badO "state" x l) : (ev4 gv ar (Ψ 10) xo).v ⟨sg j y mill (.s calmD) state (.s x) trim wind (.s goodD) day ticks m s o t w d k, h⟩ = .ok (.w (.lst l)) ⟨sg j y mill (.s calmD) state (.s x) trim wind (.s goodD) day ticks m s o t w d k, h⟩ := by
  rcases p with ⟨rfl, rfl⟩ | ⟨hx, rfl⟩
  · kernel_rfl
  · simp only [badO, List.mem_cons, List.not_mem_nil, or_false] at hx
    rcases hx with rfl | rfl | rfl
    · kernel_rfl
    · kernel_rfl
    · kernel_rfl
abbrev xt : Ex := .ife (.cmp .ne (.bi .repr (.cons (.var 12) .nil)) (.bi .repr (.cons (.tup (.cons (.c (.int 1)) (.cons (.c (.int 0)) (.cons (.c (.int 0)) .nil)))) .nil))) (.lst (.cons (.tup (.cons (.c (.str "trim")) (.cons (.var 12) .nil))) .nil)) (.lst .nil)
theorem et_ok {j : Nat} {y mill state other wind day ticks m s o t w d k : Sl} {h l : List D} {x : D} (p : IsP trimD badT "trim" x l) : (ev4 gv ar (Ψ 10) xt).v ⟨sg j y mill (.s calmD) state other (.s x) wind (.s goodD) day ticks m s o t w d k, h⟩ = .ok (.w (.lst l)) ⟨sg j y mill (.s calmD) state other (.s x) wind (.s goodD) day ticks m s o t w d k, h⟩ := by
  rcases p with ⟨rfl, rfl⟩ | ⟨hx, rfl⟩
  · kernel_rfl
  · simp only [badT, List.mem_cons, List.not_mem_nil, or_false] at hx
    rcases hx with rfl | rfl | rfl | rfl | rfl | rfl | rfl
    · kernel_rfl
    · kernel_rfl
    · kernel_rfl
    · kernel_rfl
    · kernel_rfl
    · kernel_rfl
    · kernel_rfl
abbrev xw : Ex := .ife (.cmp .ne (.bi .repr (.cons (.var 13) .nil)) (.c (.str "1"))) (.lst (.cons (.tup (.cons (.c (.str "wind")) (.cons (.var 13) .nil))) .nil)) (.lst .nil)
theorem ew_ok {j : Nat} {y mill state other trim day ticks m s o t w d k : Sl} {h l : List D} {x : D} (p : IsP (.int 1) badW "wind" x l) : (ev4 gv ar (Ψ 10) xw).v ⟨sg j y mill (.s calmD) state other trim (.s x) (.s goodD) day ticks m s o t w d k, h⟩ = .ok (.w (.lst l)) ⟨sg j y mill (.s calmD) state other trim (.s x) (.s goodD) day ticks m s o t w d k, h⟩ := by
  rcases p with ⟨rfl, rfl⟩ | ⟨hx, rfl⟩
  · kernel_rfl
  · simp only [badW, List.mem_cons, List.not_mem_nil, or_false] at hx
    rcases hx with rfl | rfl | rfl | rfl | rfl
    · kernel_rfl
    · kernel_rfl
    · kernel_rfl
    · kernel_rfl
    · kernel_rfl
abbrev xk : Ex := .ife (.cmp .ne (.bi .repr (.cons (.var 16) .nil)) (.c (.str "3"))) (.lst (.cons (.tup (.cons (.c (.str "ticks")) (.cons (.var 16) .nil))) .nil)) (.lst .nil)
theorem ek_ok {j : Nat} {y mill state other trim wind day m s o t w d k : Sl} {h l : List D} {x : D} (p : IsP (.int 3) badK "ticks" x l) : (ev4 gv ar (Ψ 10) xk).v ⟨sg j y mill (.s calmD) state other trim wind (.s goodD) day (.s x) m s o t w d k, h⟩ = .ok (.w (.lst l)) ⟨sg j y mill (.s calmD) state other trim wind (.s goodD) day (.s x) m s o t w d k, h⟩ := by
  rcases p with ⟨rfl, rfl⟩ | ⟨hx, rfl⟩
  · kernel_rfl
  · simp only [badK, List.mem_cons, List.not_mem_nil, or_false] at hx
    rcases hx with rfl | rfl | rfl | rfl | rfl
    · kernel_rfl
    · kernel_rfl
    · kernel_rfl
    · kernel_rfl
    · kernel_rfl
end K86
end Vi
/-! text Ld4 -/
set_option Elab.async false
set_option linter.all false
set_option maxRecDepth 100000
set_option maxHeartbeats 4000000
namespace Vi
open PySem PySem.Spec PyProof.Rows L2
namespace K86
abbrev xd : Ex := .ife (.cmp .ne (.bi .repr (.cons (.var 15) .nil)) (.bi .repr (.cons (.var 14) .nil))) (.lst (.cons (.tup (.cons (.c (.str "day")) (.cons (.var 15) .nil))) .nil)) (.lst .nil)
theorem ed_ok {j : Nat} {y mill state other trim wind ticks m s o t w d k : Sl} {h l : List D} {x : D} (p : IsP goodD badD "day" x l) : (ev4 gv ar (Ψ 10) xd).v ⟨sg j y mill (.s calmD) state other trim wind (.s goodD) (.s x) ticks m s o t w d k, h⟩ = .ok (.w (.lst l)) ⟨sg j y mill (.s calmD) state other trim wind (.s goodD) (.s x) ticks m s o t w d k, h⟩ := by
  rcases p with ⟨rfl, rfl⟩ | ⟨hx, rfl⟩
  · kernel_rfl
  · simp only [badD, List.mem_cons, List.not_mem_nil, or_false] at hx
    rcases hx with rfl | rfl | rfl | rfl | rfl | rfl | rfl
    · kernel_rfl
    · kernel_rfl
    · kernel_rfl
    · kernel_rfl
    · kernel_rfl
    · exact ex_gen (x := bigD) (sr := "(((1, 0, 0), 1),)") rfl rfl (kr_big _) (by kernel_rfl) big_ne
    · kernel_rfl
end K86
end Vi
/-! text Ld5 -/
set_option Elab.async false
set_option linter.all false
set_option maxRecDepth 100000
set_option maxHeartbeats 4000000
namespace Vi
open PySem PySem.Spec PyProof.Rows L2
namespace K86
abbrev sA (j : Nat) (y : Sl) : List Sl := sg j y .e .e .e .e .e .e .e .e .e .e .e .e .e .e .e .e
theorem pre4 (j : Nat) (h : List D) : mSeq (run gv ar (Ψ 10) rp0) (mSeq (run gv ar (Ψ 10) rp1) (mSeq (run gv ar (Ψ 10) rp2) (run gv ar (Ψ 10) rp3))) ⟨.s (.ref j) :: List.replicate 26 .e, h⟩ = .nx ⟨sA j (.o (.lst badM)), h⟩ := by
  kernel_rfl
theorem seq4 {Φ : Nat → Cf} {a b c d : Sm} {r : Sms} {S S' : St} (e : mSeq (run gv ar Φ a) (mSeq (run gv ar Φ b) (mSeq (run gv ar Φ c) (run gv ar Φ d))) S = .nx S') : runs gv ar Φ (.cons a (.cons b (.cons c (.cons d r)))) S = runs gv ar Φ r S' := by
  have z : runs gv ar Φ (.cons a (.cons b (.cons c (.cons d r)))) = mSeq (mSeq (run gv ar Φ a) (mSeq (run gv ar Φ b) (mSeq (run gv ar Φ c) (run gv ar Φ d)))) (runs gv ar Φ r) := by
    show mSeq (run gv ar Φ a) (mSeq (run gv ar Φ b) (mSeq (run gv ar Φ c) (mSeq (run gv ar Φ d) (runs gv ar Φ r)))) = _
    rw [seq_seq, seq_seq, seq_seq]
  rw [z]
  unfold mSeq at e ⊢
  rw [e]
abbrev sB (j : Nat) (y : Sl) (mill state other trim wind day ticks : D) (m s o t w d k : Sl) : List Sl := sg j y (.s mill) (.s calmD) (.s state) (.s other) (.s trim) (.s wind) (.s goodD) (.s day) (.s ticks) m s o t w d k
abbrev mn4 : Ex := (.var 7)
abbrev dn4 : Ex := (.var 1)
abbrev mn6 : Ex := (.lst (.cons (.c .non) (.cons (.tup .nil) (.cons (.tup (.cons (.c (.int 4)) (.cons (.c (.int 0)) (.cons (.tup (.cons (.c (.int 0)) (.cons (.c (.int 0)) (.cons (.c (.int 0)) .nil)))) .nil)))) (.cons (.tup (.cons (.c (.int 0)) (.cons (.c (.int 3)) (.cons (.tup (.cons (.c (.int 0)) (.cons (.c (.int 0)) (.cons (.c (.int 0)) .nil)))) .nil)))) (.cons (.tup (.cons (.c (.int 0)) (.cons (.c (.int 0)) (.cons (.tup (.cons (.c (.int 2)) (.cons (.c (.int 0)) (.cons (.c (.int 0)) .nil)))) .nil)))) (.cons (.lst (.cons (.c (.int 0)) (.cons (.c (.int 0)) (.cons (.tup (.cons (.c (.int 0)) (.cons (.c (.int 0)) (.cons (.c (.int 0)) .nil)))) .nil)))) (.cons (.tup (.cons (.c (.int 0)) (.cons (.c (.bl true)) (.cons (.tup (.cons (.c (.int 0)) (.cons (.c (.int 0)) (.cons (.c (.int 0)) .nil)))) .nil)))) .nil))))))))
abbrev dn6 : Ex := (.var 9)
abbrev mn7 : Ex := (.lst (.cons (.c .non) (.cons (.tup (.cons (.c (.int 4)) (.cons (.c (.int 0)) (.cons (.tup (.cons (.c (.int 0)) (.cons (.c (.int 0)) (.cons (.c (.int 0)) .nil)))) .nil)))) (.cons (.tup (.cons (.c (.int 0)) (.cons (.c (.int 0)) .nil))) .nil))))
abbrev dn7 : Ex := (.var 9)
abbrev mn8 : Ex := (.lst (.cons (.c .non) (.cons (.tup .nil) (.cons (.tup (.cons (.c (.int 2)) (.cons (.c (.int 0)) (.cons (.c (.int 0)) .nil)))) (.cons (.tup (.cons (.c (.int 0)) (.cons (.c (.int 0)) (.cons (.c (.int 2)) .nil)))) (.cons (.lst (.cons (.c (.int 0)) (.cons (.c (.int 0)) (.cons (.c (.int 0)) .nil)))) (.cons (.tup (.cons (.c (.int 0)) (.cons (.c (.int 0)) .nil))) (.cons (.tup (.cons (.c (.int 0)) (.cons (.c (.bl true)) (.cons (.c (.int 0)) .nil)))) .nil))))))))
abbrev dn8 : Ex := (.tup (.cons (.c (.int 1)) (.cons (.c (.int 0)) (.cons (.c (.int 0)) .nil))))
abbrev mn9 : Ex := (.lst (.cons (.c .non) (.cons (.neg (.c (.int 1))) (.cons (.c (.int 3)) (.cons (.c (.bl true)) (.cons (.c (.str "0")) .nil))))))
abbrev dn9 : Ex := (.c (.int 1))
abbrev mn11 : Ex := (.lst (.cons (.c .non) (.cons (.lst .nil) (.cons (.tup (.cons (.tup (.cons (.tup (.cons (.c (.int 2)) (.cons (.c (.int 0)) (.cons (.c (.int 0)) .nil)))) (.cons (.c (.int 1)) .nil))) .nil)) (.cons (.tup (.cons (.tup (.cons (.tup (.cons (.c (.int 1)) (.cons (.c (.int 0)) (.cons (.c (.int 0)) .nil)))) (.cons (.c (.int 3)) .nil))) .nil)) (.cons (.tup (.cons (.tup (.cons (.tup (.cons (.c (.int 1)) (.cons (.c (.int 0)) (.cons (.c (.int 0)) .nil)))) .nil)) .nil)) (.cons (.bin .mul (.var 14) (.c (.int 41))) (.cons (.tup (.cons (.c (.int 1)) .nil)) .nil))))))))
abbrev dn11 : Ex := (.var 14)
abbrev mn12 : Ex := (.lst (.cons (.c .non) (.cons (.neg (.c (.int 1))) (.cons (.c (.int 41)) (.cons (.c (.bl true)) (.cons (.c (.str "0")) .nil))))))
abbrev dn12 : Ex := (.c (.int 3))
theorem pre_picks {j c : Nat} {h : List D} (g : Good h j c) (hc : c < 900) :
    ∃ (y : Sl) (mill state other trim wind day ticks : D) (h' : List D), (mill = fineD ∨ mill ∈ badM) ∧ (state = calmD ∨ state ∈ badS) ∧ (other = calmD ∨ other ∈ badO) ∧ (trim = trimD ∨ trim ∈ badT) ∧ (wind = .int 1 ∨ wind ∈ badW) ∧ (day = goodD ∨ day ∈ badD) ∧ (ticks = .int 3 ∨ ticks ∈ badK) ∧ Good h' j (c + 14) ∧ h'.length = h.length ∧
      runs gv ar (Ψ 10) rtPre ⟨.s (.ref j) :: List.replicate 26 .e, h⟩ = runs gv ar (Ψ 10) (.cons rp13 (.cons rp14 (.cons rp15 .nil))) ⟨sB j y mill state other trim wind day ticks .e .e .e .e .e .e .e, h'⟩ := by
  obtain ⟨mill, σ4, h1, p4, g1, l1, f4⟩ := pick_ok (k := 8) (i := 8) (σ := sA j (.o (.lst badM))) (σ1 := sA j (.s (.lst badM))) (h := h) (menu := badM) (d0 := fineD) (m := mn4) (dflt := dn4) rfl g (by omega) (by decide) (by decide) (fun h' => by kernel_rfl) (fun h' => by kernel_rfl)
  obtain ⟨y, s4, q4⟩ : ∃ y, σ4 = sA j y ∧ (mill = fineD ∨ mill ∈ badM) := p4.elim (fun z => ⟨_, z.2, .inl z.1⟩) fun z => ⟨_, z.2, .inr z.1⟩
  subst s4
  have e4 : run gv ar (Ψ 10) rp4 ⟨sA j (.o (.lst badM)), h⟩ = .nx ⟨sg j y (.s mill) .e .e .e .e .e .e .e .e .e .e .e .e .e .e .e, h1⟩ := f4
  have e5 : run gv ar (Ψ 10) rp5 ⟨sg j y (.s mill) .e .e .e .e .e .e .e .e .e .e .e .e .e .e .e, h1⟩ = .nx ⟨sg j y (.s mill) (.s calmD) .e .e .e .e .e .e .e .e .e .e .e .e .e .e, h1⟩ := by kernel_rfl
  obtain ⟨state, σ6, h2, p6, g2, l2, f6⟩ := pick_ok (k := 8) (i := 10) (σ := sg j y (.s mill) (.s calmD) .e .e .e .e .e .e .e .e .e .e .e .e .e .e) (σ1 := sg j y (.s mill) (.s calmD) .e .e .e .e .e .e .e .e .e .e .e .e .e .e) (h := h1) (menu := badS) (d0 := calmD) (m := mn6) (dflt := dn6) rfl g1 (by omega) (by decide) (by decide) (fun h' => by kernel_rfl) (fun h' => by kernel_rfl)
  obtain ⟨s6, q6⟩ : σ6 = sg j y (.s mill) (.s calmD) .e .e .e .e .e .e .e .e .e .e .e .e .e .e ∧ (state = calmD ∨ state ∈ badS) := p6.elim (fun z => ⟨z.2, .inl z.1⟩) fun z => ⟨z.2, .inr z.1⟩
  subst s6
  have e6 : run gv ar (Ψ 10) rp6 ⟨sg j y (.s mill) (.s calmD) .e .e .e .e .e .e .e .e .e .e .e .e .e .e, h1⟩ = .nx ⟨sg j y (.s mill) (.s calmD) (.s state) .e .e .e .e .e .e .e .e .e .e .e .e .e, h2⟩ := f6
  obtain ⟨other, σ7, h3, p7, g3, l3, f7⟩ := pick_ok (k := 8) (i := 11) (σ := sg j y (.s mill) (.s calmD) (.s state) .e .e .e .e .e .e .e .e .e .e .e .e .e) (σ1 := sg j y (.s mill) (.s calmD) (.s state) .e .e .e .e .e .e .e .e .e .e .e .e .e) (h := h2) (menu := badO) (d0 := calmD) (m := mn7) (dflt := dn7) rfl g2 (by omega) (by decide) (by decide) (fun h' => by kernel_rfl) (fun h' => by kernel_rfl)
  obtain ⟨s7, q7⟩ : σ7 = sg j y (.s mill) (.s calmD) (.s state) .e .e .e .e .e .e .e .e .e .e .e .e .e ∧ (other = calmD ∨ other ∈ badO) := p7.elim (fun z => ⟨z.2, .inl z.1⟩) fun z => ⟨z.2, .inr z.1⟩
  subst s7
  have e7 : run gv ar (Ψ 10) rp7 ⟨sg j y (.s mill) (.s calmD) (.s state) .e .e .e .e .e .e .e .e .e .e .e .e .e, h2⟩ = .nx ⟨sg j y (.s mill) (.s calmD) (.s state) (.s other) .e .e .e .e .e .e .e .e .e .e .e .e, h3⟩ := f7
  obtain ⟨trim, σ8, h4, p8, g4, l4, f8⟩ := pick_ok (k := 8) (i := 12) (σ := sg j y (.s mill) (.s calmD) (.s state) (.s other) .e .e .e .e .e .e .e .e .e .e .e .e) (σ1 := sg j y (.s mill) (.s calmD) (.s state) (.s other) .e .e .e .e .e .e .e .e .e .e .e .e) (h := h3) (menu := badT) (d0 := trimD) (m := mn8) (dflt := dn8) rfl g3 (by omega) (by decide) (by decide) (fun h' => by kernel_rfl) (fun h' => by kernel_rfl)
  obtain ⟨s8, q8⟩ : σ8 = sg j y (.s mill) (.s calmD) (.s state) (.s other) .e .e .e .e .e .e .e .e .e .e .e .e ∧ (trim = trimD ∨ trim ∈ badT) := p8.elim (fun z => ⟨z.2, .inl z.1⟩) fun z => ⟨z.2, .inr z.1⟩
  subst s8
  have e8 : run gv ar (Ψ 10) rp8 ⟨sg j y (.s mill) (.s calmD) (.s state) (.s other) .e .e .e .e .e .e .e .e .e .e .e .e, h3⟩ = .nx ⟨sg j y (.s mill) (.s calmD) (.s state) (.s other) (.s trim) .e .e .e .e .e .e .e .e .e .e .e, h4⟩ := f8
  obtain ⟨wind, σ9, h5, p9, g5, l5, f9⟩ := pick_ok (k := 8) (i := 13) (σ := sg j y (.s mill) (.s calmD) (.s state) (.s other) (.s trim) .e .e .e .e .e .e .e .e .e .e .e) (σ1 := sg j y (.s mill) (.s calmD) (.s state) (.s other) (.s trim) .e .e .e .e .e .e .e .e .e .e .e) (h := h4) (menu := badW) (d0 := (.int 1)) (m := mn9) (dflt := dn9) rfl g4 (by omega) (by decide) (by decide) (fun h' => by kernel_rfl) (fun h' => by kernel_rfl)
  obtain ⟨s9, q9⟩ : σ9 = sg j y (.s mill) (.s calmD) (.s state) (.s other) (.s trim) .e .e .e .e .e .e .e .e .e .e .e ∧ (wind = (.int 1) ∨ wind ∈ badW) := p9.elim (fun z => ⟨z.2, .inl z.1⟩) fun z => ⟨z.2, .inr z.1⟩
  subst s9
  have e9 : run gv ar (Ψ 10) rp9 ⟨sg j y (.s mill) (.s calmD) (.s state) (.s other) (.s trim) .e .e .e .e .e .e .e .e .e .e .e, h4⟩ = .nx ⟨sg j y (.s mill) (.s calmD) (.s state) (.s other) (.s trim) (.s wind) .e .e .e .e .e .e .e .e .e .e, h5⟩ := f9
  have e10 : run gv ar (Ψ 10) rp10 ⟨sg j y (.s mill) (.s calmD) (.s state) (.s other) (.s trim) (.s wind) .e .e .e .e .e .e .e .e .e .e, h5⟩ = .nx ⟨sg j y (.s mill) (.s calmD) (.s state) (.s other) (.s trim) (.s wind) (.s goodD) .e .e .e .e .e .e .e .e .e, h5⟩ := by kernel_rfl
  obtain ⟨day, σ11, h6, p11, g6, l6, f11⟩ := pick_ok (k := 8) (i := 15) (σ := sg j y (.s mill) (.s calmD) (.s state) (.s other) (.s trim) (.s wind) (.s goodD) .e .e .e .e .e .e .e .e .e) (σ1 := sg j y (.s mill) (.s calmD) (.s state) (.s other) (.s trim) (.s wind) (.s goodD) .e .e .e .e .e .e .e .e .e) (h := h5) (menu := badD) (d0 := goodD) (m := mn11) (dflt := dn11) rfl g5 (by omega) (by decide) (by decide) (fun h' => by kernel_rfl) (fun h' => by kernel_rfl)
  obtain ⟨s11, q11⟩ : σ11 = sg j y (.s mill) (.s calmD) (.s state) (.s other) (.s trim) (.s wind) (.s goodD) .e .e .e .e .e .e .e .e .e ∧ (day = goodD ∨ day ∈ badD) := p11.elim (fun z => ⟨z.2, .inl z.1⟩) fun z => ⟨z.2, .inr z.1⟩
  subst s11
  have e11 : run gv ar (Ψ 10) rp11 ⟨sg j y (.s mill) (.s calmD) (.s state) (.s other) (.s trim) (.s wind) (.s goodD) .e .e .e .e .e .e .e .e .e, h5⟩ = .nx ⟨sg j y (.s mill) (.s calmD) (.s state) (.s other) (.s trim) (.s wind) (.s goodD) (.s day) .e .e .e .e .e .e .e .e, h6⟩ := f11
  obtain ⟨ticks, σ12, h7, p12, g7, l7, f12⟩ := pick_ok (k := 8) (i := 16) (σ := sg j y (.s mill) (.s calmD) (.s state) (.s other) (.s trim) (.s wind) (.s goodD) (.s day) .e .e .e .e .e .e .e .e) (σ1 := sg j y (.s mill) (.s calmD) (.s state) (.s other) (.s trim) (.s wind) (.s goodD) (.s day) .e .e .e .e .e .e .e .e) (h := h6) (menu := badK) (d0 := (.int 3)) (m := mn12) (dflt := dn12) rfl g6 (by omega) (by decide) (by decide) (fun h' => by kernel_rfl) (fun h' => by kernel_rfl)
  obtain ⟨s12, q12⟩ : σ12 = sg j y (.s mill) (.s calmD) (.s state) (.s other) (.s trim) (.s wind) (.s goodD) (.s day) .e .e .e .e .e .e .e .e ∧ (ticks = (.int 3) ∨ ticks ∈ badK) := p12.elim (fun z => ⟨z.2, .inl z.1⟩) fun z => ⟨z.2, .inr z.1⟩
  subst s12
  have e12 : run gv ar (Ψ 10) rp12 ⟨sg j y (.s mill) (.s calmD) (.s state) (.s other) (.s trim) (.s wind) (.s goodD) (.s day) .e .e .e .e .e .e .e .e, h6⟩ = .nx ⟨sg j y (.s mill) (.s calmD) (.s state) (.s other) (.s trim) (.s wind) (.s goodD) (.s day) (.s ticks) .e .e .e .e .e .e .e, h7⟩ := f12
  refine ⟨y, mill, state, other, trim, wind, day, ticks, h7, q4, q6, q7, q8, q9, q11, q12, g7, by rw [l7, l6, l5, l4, l3, l2, l1], ?_⟩
  refine (seq4 (pre4 j h)).trans ?_
  rw [seq_step e4, seq_step e5, seq_step e6, seq_step e7, seq_step e8, seq_step e9, seq_step e10, seq_step e11, seq_step e12]
/-- what stands behind the prefix -/
theorem pre_ok {j c : Nat} {h : List D} (g : Good h j c) (hc : c < 900) :
    ∃ (y : Sl) (mill state other trim wind day ticks : D) (m s o t w d k h' : List D), IsP fineD badM "mill" mill m ∧ IsP calmD badS "state" state s ∧ IsP calmD badO "state" other o ∧ IsP trimD badT "trim" trim t ∧ IsP (.int 1) badW "wind" wind w ∧ IsP goodD badD "day" day d ∧ IsP (.int 3) badK "ticks" ticks k ∧ Good h' j (c + 14) ∧ h'.length = h.length ∧
      runs gv ar (Ψ 10) rtPre ⟨.s (.ref j) :: List.replicate 26 .e, h⟩ = .nx ⟨sB j y mill state other trim wind day ticks (.o (.lst m)) (.o (.lst s)) (.o (.lst o)) (.o (.lst t)) (.o (.lst w)) (.o (.lst d)) (.o (.lst k)), h'⟩ := by
  have isP : ∀ {good x : D} {bad : List D} {nm : Str}, (x = good ∨ x ∈ bad) → ∃ l, IsP good bad nm x l := fun h => h.elim (fun h => ⟨_, .inl ⟨h, rfl⟩⟩) fun h => ⟨_, .inr ⟨h, rfl⟩⟩
  obtain ⟨y, mill, state, other, trim, wind, day, ticks, h', q1, q2, q3, q4, q5, q6, q7, g', l', e⟩ := pre_picks g hc
  obtain ⟨m, p1⟩ := isP (nm := "mill") q1
  obtain ⟨s, p2⟩ := isP (nm := "state") q2
  obtain ⟨o, p3⟩ := isP (nm := "state") q3
  obtain ⟨t, p4⟩ := isP (nm := "trim") q4
  obtain ⟨w, p5⟩ := isP (nm := "wind") q5
  obtain ⟨d, p6⟩ := isP (nm := "day") q6
  obtain ⟨k, p7⟩ := isP (nm := "ticks") q7
  refine ⟨y, mill, state, other, trim, wind, day, ticks, m, s, o, t, w, d, k, h', p1, p2, p3, p4, p5, p6, p7, g', l', e.trans ?_⟩
  have e13 : run gv ar (Ψ 10) rp13 ⟨sB j y mill state other trim wind day ticks .e .e .e .e .e .e .e, h'⟩ = .nx ⟨sB j y mill state other trim wind day ticks (.o (.lst m)) (.o (.lst s)) (.o (.lst o)) .e .e .e .e, h'⟩ := par3_ok (em_ok p1) (es_ok p2) (eo_ok p3)
  have e14 : run gv ar (Ψ 10) rp14 ⟨sB j y mill state other trim wind day ticks (.o (.lst m)) (.o (.lst s)) (.o (.lst o)) .e .e .e .e, h'⟩ = .nx ⟨sB j y mill state other trim wind day ticks (.o (.lst m)) (.o (.lst s)) (.o (.lst o)) (.o (.lst t)) (.o (.lst w)) .e .e, h'⟩ := par2_ok (et_ok p4) (ew_ok p5)
  have e15 : run gv ar (Ψ 10) rp15 ⟨sB j y mill state other trim wind day ticks (.o (.lst m)) (.o (.lst s)) (.o (.lst o)) (.o (.lst t)) (.o (.lst w)) .e .e, h'⟩ = .nx ⟨sB j y mill state other trim wind day ticks (.o (.lst m)) (.o (.lst s)) (.o (.lst o)) (.o (.lst t)) (.o (.lst w)) (.o (.lst d)) (.o (.lst k)), h'⟩ := par2_ok (ed_ok p6) (ek_ok p7)
  rw [seq_step e13, seq_step e14, seq_step e15]
  rfl
end K86
end Vi
/-! text Ld6 -/
set_option Elab.async false
set_option linter.all false
set_option maxRecDepth 100000
set_option maxHeartbeats 4000000
namespace Vi
open PySem PySem.Spec PyProof.Rows L2
namespace K86
/-- shown alike, whatever the state -/
structure Rp (x : D) : Prop where
  dr : ∀ S, deref x S = .ok x S
  sh : ∃ s : Str, PyData.strOk s = true ∧ ∀ S, kRepr [x] S = .ok (.v (.str s)) S
def mks (c : Nat) : D := .dct [.str "mill", .str "state", .str "trim", .str "wind", .str "day", .str "ticks"] [.bl (c == 2), .bl (c == 3), .bl (c == 5), .bl (c == 6), .bl (c == 1), .bl (c == 4)]
theorem isr_ret {S : St} {x : D} {c : Nat} {nm : Str} (r : Rp x) (h1 : S.σ[1]? = some (.s (.tup [.str nm, x]))) (h2 : S.σ[2]? = some (.s (.exc c x))) (hi : mIdx (mVar 3) (mIdx (mVar 1) (mC (.int 0))) S = .ok (.v (.bl true)) S) (hc : c < 11) :
    run gv ar (Ψ 10) (.ret (.and (.cons (.idx (.var 3) (.idx (.var 1) (.c (.int 0)))) (.cons (.cmp .eq (.bi .repr (.cons (.xv (.var 2)) .nil)) (.bi .repr (.cons (.idx (.var 1) (.c (.int 1))) .nil))) .nil)))) S = .rt (.v (.bl true)) S := by
  obtain ⟨s, ok, kr⟩ := r.sh
  have v1 : mVar 1 S = .ok (.v (.tup [.str nm, x])) S := by unfold mVar; rw [h1]
  have v2 : mVar 2 S = .ok (.v (.exc c x)) S := by unfold mVar; rw [h2]
  have er : rdh (.v x) S = .ok x S := r.dr S
  have x1 : mIdx (mVar 1) (mC (.int 1)) S = .ok (.v x) S := by
    unfold mIdx
    rw [bind_ok v1]; rfl
  have x2 : mXv (xcN gv) (mVar 2) S = .ok (.v x) S := by
    have hn : xcN gv = 11 := rfl
    unfold mXv
    rw [bind_ok v2, hn]
    show Vi.bind (rdh (O.v (.exc c x))) _ S = _
    rw [bind_ok (show rdh (O.v (.exc c x)) S = .ok (.exc c x) S from rfl)]
    unfold xvD
    dsimp only
    rw [if_pos hc]; rfl
  have sh : ∀ m : M O, m S = .ok (.v x) S → mBi (Bi.k (xcN gv) .repr) (mOCons m mONil) S = .ok (.v (.str s)) S := fun m e => by
    unfold mBi
    rw [bind_ok (show mOCons m mONil S = .ok [.v x] S by unfold mOCons; rw [bind_ok e]; rfl)]
    rw [bind_ok (show rdhs [.v x] S = .ok [x] S by unfold rdhs; rw [bind_ok er]; rfl)]
    exact kr S
  have e3 : mCmp .eq (mBi (Bi.k (xcN gv) .repr) (mOCons (mXv (xcN gv) (mVar 2)) mONil)) (mBi (Bi.k (xcN gv) .repr) (mOCons (mIdx (mVar 1) (mC (.int 1))) mONil)) S = .ok (.v (.bl true)) S := by
    unfold mCmp
    rw [bind_ok (sh _ x2), bind_ok (sh _ x1)]
    show Vi.bind (opt (eqD (.str s) (.str s))) (fun b => ret (O.v (.bl b))) S = _
    have e4 : eqD (.str s) (.str s) = some true := by
      show eqP (.str s) (.str s) = some true
      rw [eq_str ok ok]; simp
    rw [e4]; rfl
  show mRet (mAnd (mIdx (mVar 3) (mIdx (mVar 1) (mC (.int 0)))) (mCmp .eq (mBi (Bi.k (xcN gv) .repr) (mOCons (mXv (xcN gv) (mVar 2)) mONil)) (mBi (Bi.k (xcN gv) .repr) (mOCons (mIdx (mVar 1) (mC (.int 1))) mONil)))) S = _
  have e5 : mAnd (mIdx (mVar 3) (mIdx (mVar 1) (mC (.int 0)))) (mCmp .eq (mBi (Bi.k (xcN gv) .repr) (mOCons (mXv (xcN gv) (mVar 2)) mONil)) (mBi (Bi.k (xcN gv) .repr) (mOCons (mIdx (mVar 1) (mC (.int 1))) mONil))) S = .ok (.v (.bl true)) S := by
    unfold mAnd
    rw [bind_ok hi]
    exact e3
  unfold mRet mThen
  rw [e5]
abbrev is0 : Sm := (.ifS (.cmp .is (.var 1) (.c .non)) (.cons (.ret (.cmp .is (.var 2) (.c .non))) .nil) .nil)
abbrev is1 : Sm := (.set 3 (.dsp (.cons (.c (.str "mill")) (.cons (.bi .isi (.cons (.var 2) (.cons (.gl 17) .nil))) (.cons (.c (.str "state")) (.cons (.bi .isi (.cons (.var 2) (.cons (.gl 18) .nil))) (.cons (.c (.str "trim")) (.cons (.bi .isi (.cons (.var 2) (.cons (.gl 20) .nil))) .nil))))))))
abbrev is2 : Sm := (.doE (.me .update (.var 3) (.cons (.dsp (.cons (.c (.str "wind")) (.cons (.bi .isi (.cons (.var 2) (.cons (.gl 21) .nil))) (.cons (.c (.str "day")) (.cons (.bi .isi (.cons (.var 2) (.cons (.gl 16) .nil))) (.cons (.c (.str "ticks")) (.cons (.bi .isi (.cons (.var 2) (.cons (.gl 19) .nil))) .nil))))))) .nil)))
abbrev is3 : Sm := (.ret (.and (.cons (.idx (.var 3) (.idx (.var 1) (.c (.int 0)))) (.cons (.cmp .eq (.bi .repr (.cons (.xv (.var 2)) .nil)) (.bi .repr (.cons (.idx (.var 1) (.c (.int 1))) .nil))) .nil))))
theorem isr_split {S S1 S2 : St} {r : RF} (e0 : run gv ar (Ψ 10) is0 S = .nx S) (e1 : mSeq (run gv ar (Ψ 10) is1) (run gv ar (Ψ 10) is2) S = .nx S1) (e3 : run gv ar (Ψ 10) is3 S1 = .rt (.v (.bl true)) S2) : runs gv ar (Ψ 10) isrT S = .rt (.v (.bl true)) S2 := by
  have z : runs gv ar (Ψ 10) isrT = mSeq (run gv ar (Ψ 10) is0) (mSeq (mSeq (run gv ar (Ψ 10) is1) (run gv ar (Ψ 10) is2)) (mSeq (run gv ar (Ψ 10) is3) mSkip)) := by
    show mSeq (run gv ar (Ψ 10) is0) (mSeq (run gv ar (Ψ 10) is1) (mSeq (run gv ar (Ψ 10) is2) (mSeq (run gv ar (Ψ 10) is3) mSkip))) = _
    rw [seq_seq]
  rw [z]
  have q1 : mSeq (run gv ar (Ψ 10) is0) (mSeq (mSeq (run gv ar (Ψ 10) is1) (run gv ar (Ψ 10) is2)) (mSeq (run gv ar (Ψ 10) is3) mSkip)) S = mSeq (mSeq (run gv ar (Ψ 10) is1) (run gv ar (Ψ 10) is2)) (mSeq (run gv ar (Ψ 10) is3) mSkip) S := by
    generalize mSeq (mSeq (run gv ar (Ψ 10) is1) (run gv ar (Ψ 10) is2)) (mSeq (run gv ar (Ψ 10) is3) mSkip) = w
    unfold mSeq; rw [e0]
  rw [q1]
  generalize mSeq (run gv ar (Ψ 10) is1) (run gv ar (Ψ 10) is2) = a at e1 ⊢
  have q2 : mSeq a (mSeq (run gv ar (Ψ 10) is3) mSkip) S = mSeq (run gv ar (Ψ 10) is3) mSkip S1 := by
    generalize mSeq (run gv ar (Ψ 10) is3) mSkip = w
    unfold mSeq; rw [e1]
  rw [q2]
  unfold mSeq
  rw [e3]
theorem isr_mill {x : D} {h : List D} (r : Rp x) (hs : sameDs h h = true) : isrOk (runs gv ar (Ψ 10) isrT) 1 (.tup [.str "mill", x]) (.exc 2 x) h (fun h' => sameDs h' h) = true := by
  have e := isr_split (r := .fail) (S := isrSt (.tup [.str "mill", x]) (.exc 2 x) 1 h) (S1 := ⟨[.e, .s (.tup [.str "mill", x]), .s (.exc 2 x), .o (mks 2)], h⟩) (by kernel_rfl) (by kernel_rfl) (isr_ret r rfl rfl (by kernel_rfl) (by decide))
  unfold isrOk
  rw [e]
  exact hs
theorem isr_state {x : D} {h : List D} (r : Rp x) (hs : sameDs h h = true) : isrOk (runs gv ar (Ψ 10) isrT) 1 (.tup [.str "state", x]) (.exc 3 x) h (fun h' => sameDs h' h) = true := by
  have e := isr_split (r := .fail) (S := isrSt (.tup [.str "state", x]) (.exc 3 x) 1 h) (S1 := ⟨[.e, .s (.tup [.str "state", x]), .s (.exc 3 x), .o (mks 3)], h⟩) (by kernel_rfl) (by kernel_rfl) (isr_ret r rfl rfl (by kernel_rfl) (by decide))
  unfold isrOk
  rw [e]
  exact hs
theorem isr_trim {x : D} {h : List D} (r : Rp x) (hs : sameDs h h = true) : isrOk (runs gv ar (Ψ 10) isrT) 1 (.tup [.str "trim", x]) (.exc 5 x) h (fun h' => sameDs h' h) = true := by
  have e := isr_split (r := .fail) (S := isrSt (.tup [.str "trim", x]) (.exc 5 x) 1 h) (S1 := ⟨[.e, .s (.tup [.str "trim", x]), .s (.exc 5 x), .o (mks 5)], h⟩) (by kernel_rfl) (by kernel_rfl) (isr_ret r rfl rfl (by kernel_rfl) (by decide))
  unfold isrOk
  rw [e]
  exact hs
theorem isr_wind {x : D} {h : List D} (r : Rp x) (hs : sameDs h h = true) : isrOk (runs gv ar (Ψ 10) isrT) 1 (.tup [.str "wind", x]) (.exc 6 x) h (fun h' => sameDs h' h) = true := by
  have e := isr_split (r := .fail) (S := isrSt (.tup [.str "wind", x]) (.exc 6 x) 1 h) (S1 := ⟨[.e, .s (.tup [.str "wind", x]), .s (.exc 6 x), .o (mks 6)], h⟩) (by kernel_rfl) (by kernel_rfl) (isr_ret r rfl rfl (by kernel_rfl) (by decide))
  unfold isrOk
  rw [e]
  exact hs
theorem isr_day {x : D} {h : List D} (r : Rp x) (hs : sameDs h h = true) : isrOk (runs gv ar (Ψ 10) isrT) 1 (.tup [.str "day", x]) (.exc 1 x) h (fun h' => sameDs h' h) = true := by
  have e := isr_split (r := .fail) (S := isrSt (.tup [.str "day", x]) (.exc 1 x) 1 h) (S1 := ⟨[.e, .s (.tup [.str "day", x]), .s (.exc 1 x), .o (mks 1)], h⟩) (by kernel_rfl) (by kernel_rfl) (isr_ret r rfl rfl (by kernel_rfl) (by decide))
  unfold isrOk
  rw [e]
  exact hs
theorem isr_ticks {x : D} {h : List D} (r : Rp x) (hs : sameDs h h = true) : isrOk (runs gv ar (Ψ 10) isrT) 1 (.tup [.str "ticks", x]) (.exc 4 x) h (fun h' => sameDs h' h) = true := by
  have e := isr_split (r := .fail) (S := isrSt (.tup [.str "ticks", x]) (.exc 4 x) 1 h) (S1 := ⟨[.e, .s (.tup [.str "ticks", x]), .s (.exc 4 x), .o (mks 4)], h⟩) (by kernel_rfl) (by kernel_rfl) (isr_ret r rfl rfl (by kernel_rfl) (by decide))
  unfold isrOk
  rw [e]
  exact hs
theorem isr_none {h : List D} (hs : sameDs h h = true) : isrOk (runs gv ar (Ψ 10) isrT) 1 .non .ok h (fun h' => sameDs h' h) = true := by
  have e : runs gv ar (Ψ 10) isrT (isrSt .non .ok 1 h) = .rt (.v (.bl true)) (isrSt .non .ok 1 h) := by kernel_rfl
  unfold isrOk
  rw [e]
  exact hs
end K86
end Vi
/-! text Ld7 -/
set_option Elab.async false
set_option linter.all false
set_option maxRecDepth 100000
set_option maxHeartbeats 4000000
namespace Vi
open PySem PySem.Spec PyProof.Rows L2
namespace K86
def excOf : R O → Option (Nat × D × List D)
  | .exc c d S => some (c, d, S.h)
  | _ => none
def okOf : R O → Option (List D)
  | .ok _ S => some S.h
  | _ => none
abbrev lc (b : LkB) (cds : List D) (due : D) (h : List D) : Prop := lkCheck 11 (runs gv ar (Ψ 10) isrT) 1 (lkOf gv ar (Ψ 10) b noLam) cds due h = true
theorem lk_exc {b : LkB} {c : Nat} {x due : D} {cds h : List D} (h1 : excOf ((ev4 gv ar (Ψ 10) b.bd).v (ent b.fr.length cds h)) = some (c, x, h)) (hc : c < 11) (hs : sameDs h h = true) (hi : isrOk (runs gv ar (Ψ 10) isrT) 1 due (.exc c x) h (fun h' => sameDs h' h) = true) : lc b cds due h := by
  have z : rzOf (ev4 gv ar (Ψ 10) b.bd).v b.fr.length cds h (fun h' => sameDs h' h) = some (.exc c x) := by
    unfold rzOf
    unfold excOf at h1
    split at h1
    · rename_i c' d' S' e
      rw [e]
      cases h1
      dsimp only
      rw [if_pos hs]
    · cases h1
  show lkCheck _ _ _ _ _ _ _ = true
  unfold lkCheck
  show (match rzOf (ev4 gv ar (Ψ 10) b.bd).v b.fr.length cds h (fun h' => sameDs h' h) with | some r => _ | none => false) = true
  rw [z]
  show (decide (c < 11) && _) = true
  rw [decide_eq_true hc]
  exact hi
theorem lk_fine {b : LkB} {cds h : List D} (h1 : okOf ((ev4 gv ar (Ψ 10) b.bd).v (ent b.fr.length cds h)) = some h) (hs : sameDs h h = true) : lc b cds .non h := by
  have z : rzOf (ev4 gv ar (Ψ 10) b.bd).v b.fr.length cds h (fun h' => sameDs h' h) = some .ok := by
    unfold rzOf
    unfold okOf at h1
    split at h1
    · rename_i o' S' e
      rw [e]
      cases h1
      dsimp only
      rw [if_pos hs]
    · cases h1
  show lkCheck _ _ _ _ _ _ _ = true
  unfold lkCheck
  show (match rzOf (ev4 gv ar (Ψ 10) b.bd).v b.fr.length cds h (fun h' => sameDs h' h) with | some r => _ | none => false) = true
  rw [z]
  exact isr_none hs
def txt (x : D) : Str := match x.py with
  | some p => p.shown
  | none => ""
theorem rp_of {x : D} (h1 : ∀ S, deref x S = .ok x S) (h2 : PyData.strOk (txt x) = true) (h3 : ∀ S, kRepr [x] S = .ok (.v (.str (txt x))) S) : Rp x := ⟨h1, _, h2, h3⟩
theorem rp_mill {x : D} (hx : x ∈ badM) : Rp x := by
  simp only [badM, List.mem_cons, List.not_mem_nil, or_false] at hx
  rcases hx with rfl | rfl | rfl | rfl | rfl | rfl | rfl | rfl | rfl
  · exact rp_of (fun S => by kernel_rfl) (by kernel_rfl) (fun S => by kernel_rfl)
  · exact rp_of (fun S => by kernel_rfl) (by kernel_rfl) (fun S => by kernel_rfl)
  · exact rp_of (fun S => by kernel_rfl) (by kernel_rfl) (fun S => by kernel_rfl)
  · exact rp_of (fun S => by kernel_rfl) (by kernel_rfl) (fun S => by kernel_rfl)
  · exact rp_of (fun S => by kernel_rfl) (by kernel_rfl) (fun S => by kernel_rfl)
  · exact rp_of (fun S => by kernel_rfl) (by kernel_rfl) (fun S => by kernel_rfl)
  · exact rp_of (fun S => by kernel_rfl) (by kernel_rfl) (fun S => by kernel_rfl)
  · exact rp_of (fun S => by kernel_rfl) (by kernel_rfl) (fun S => by kernel_rfl)
  · exact rp_of (fun S => by kernel_rfl) (by kernel_rfl) (fun S => by kernel_rfl)
theorem rp_state {x : D} (hx : x ∈ badS) : Rp x := by
  simp only [badS, List.mem_cons, List.not_mem_nil, or_false] at hx
  rcases hx with rfl | rfl | rfl | rfl | rfl | rfl | rfl
  · exact rp_of (fun S => by kernel_rfl) (by kernel_rfl) (fun S => by kernel_rfl)
  · exact rp_of (fun S => by kernel_rfl) (by kernel_rfl) (fun S => by kernel_rfl)
  · exact rp_of (fun S => by kernel_rfl) (by kernel_rfl) (fun S => by kernel_rfl)
  · exact rp_of (fun S => by kernel_rfl) (by kernel_rfl) (fun S => by kernel_rfl)
  · exact rp_of (fun S => by kernel_rfl) (by kernel_rfl) (fun S => by kernel_rfl)
  · exact rp_of (fun S => by kernel_rfl) (by kernel_rfl) (fun S => by kernel_rfl)
  · exact rp_of (fun S => by kernel_rfl) (by kernel_rfl) (fun S => by kernel_rfl)
theorem rp_trim {x : D} (hx : x ∈ badT) : Rp x := by
  simp only [badT, List.mem_cons, List.not_mem_nil, or_false] at hx
  rcases hx with rfl | rfl | rfl | rfl | rfl | rfl | rfl
  · exact rp_of (fun S => by kernel_rfl) (by kernel_rfl) (fun S => by kernel_rfl)
  · exact rp_of (fun S => by kernel_rfl) (by kernel_rfl) (fun S => by kernel_rfl)
  · exact rp_of (fun S => by kernel_rfl) (by kernel_rfl) (fun S => by kernel_rfl)
  · exact rp_of (fun S => by kernel_rfl) (by kernel_rfl) (fun S => by kernel_rfl)
  · exact rp_of (fun S => by kernel_rfl) (by kernel_rfl) (fun S => by kernel_rfl)
  · exact rp_of (fun S => by kernel_rfl) (by kernel_rfl) (fun S => by kernel_rfl)
  · exact rp_of (fun S => by kernel_rfl) (by kernel_rfl) (fun S => by kernel_rfl)
theorem rp_wind {x : D} (hx : x ∈ badW) : Rp x := by
  simp only [badW, List.mem_cons, List.not_mem_nil, or_false] at hx
  rcases hx with rfl | rfl | rfl | rfl | rfl
  · exact rp_of (fun S => by kernel_rfl) (by kernel_rfl) (fun S => by kernel_rfl)
  · exact rp_of (fun S => by kernel_rfl) (by kernel_rfl) (fun S => by kernel_rfl)
  · exact rp_of (fun S => by kernel_rfl) (by kernel_rfl) (fun S => by kernel_rfl)
  · exact rp_of (fun S => by kernel_rfl) (by kernel_rfl) (fun S => by kernel_rfl)
  · exact rp_of (fun S => by kernel_rfl) (by kernel_rfl) (fun S => by kernel_rfl)
theorem rp_day {x : D} (hx : x ∈ badD) : Rp x := by
  simp only [badD, List.mem_cons, List.not_mem_nil, or_false] at hx
  rcases hx with rfl | rfl | rfl | rfl | rfl | rfl | rfl
  · exact rp_of (fun S => by kernel_rfl) (by kernel_rfl) (fun S => by kernel_rfl)
  · exact rp_of (fun S => by kernel_rfl) (by kernel_rfl) (fun S => by kernel_rfl)
  · exact rp_of (fun S => by kernel_rfl) (by kernel_rfl) (fun S => by kernel_rfl)
  · exact rp_of (fun S => by kernel_rfl) (by kernel_rfl) (fun S => by kernel_rfl)
  · exact rp_of (fun S => by kernel_rfl) (by kernel_rfl) (fun S => by kernel_rfl)
  · exact ⟨fun S => rfl, bigP.shown, big_ok, kr_big⟩
  · exact rp_of (fun S => by kernel_rfl) (by kernel_rfl) (fun S => by kernel_rfl)
theorem rp_ticks {x : D} (hx : x ∈ badK) : Rp x := by
  simp only [badK, List.mem_cons, List.not_mem_nil, or_false] at hx
  rcases hx with rfl | rfl | rfl | rfl | rfl
  · exact rp_of (fun S => by kernel_rfl) (by kernel_rfl) (fun S => by kernel_rfl)
  · exact rp_of (fun S => by kernel_rfl) (by kernel_rfl) (fun S => by kernel_rfl)
  · exact rp_of (fun S => by kernel_rfl) (by kernel_rfl) (fun S => by kernel_rfl)
  · exact rp_of (fun S => by kernel_rfl) (by kernel_rfl) (fun S => by kernel_rfl)
  · exact rp_of (fun S => by kernel_rfl) (by kernel_rfl) (fun S => by kernel_rfl)
theorem rp_other {x : D} (hx : x ∈ badO) : Rp x := by
  simp only [badO, List.mem_cons, List.not_mem_nil, or_false] at hx
  rcases hx with rfl | rfl | rfl
  · exact rp_of (fun S => by kernel_rfl) (by kernel_rfl) (fun S => by kernel_rfl)
  · exact rp_of (fun S => by kernel_rfl) (by kernel_rfl) (fun S => by kernel_rfl)
  · exact rp_of (fun S => by kernel_rfl) (by kernel_rfl) (fun S => by kernel_rfl)
end K86
end Vi
/-! text Ld8 -/
set_option Elab.async false
set_option linter.all false
set_option maxRecDepth 100000
set_option maxHeartbeats 4000000
namespace Vi
open PySem PySem.Spec PyProof.Rows L2
namespace K86
theorem k0_mill {x : D} {h : List D} (hs : sameDs h h = true) (hx : x ∈ badM) : lc lk0 [x] (.tup [.str "mill", x]) h := by
  have r := rp_mill hx
  simp only [badM, List.mem_cons, List.not_mem_nil, or_false] at hx
  rcases hx with rfl | rfl | rfl | rfl | rfl | rfl | rfl | rfl | rfl
  · exact lk_exc (c := 2) (by kernel_rfl) (by decide) hs (isr_mill r hs)
  · exact lk_exc (c := 2) (by kernel_rfl) (by decide) hs (isr_mill r hs)
  · exact lk_exc (c := 2) (by kernel_rfl) (by decide) hs (isr_mill r hs)
  · exact lk_exc (c := 2) (by kernel_rfl) (by decide) hs (isr_mill r hs)
  · exact lk_exc (c := 2) (by kernel_rfl) (by decide) hs (isr_mill r hs)
  · exact lk_exc (c := 2) (by kernel_rfl) (by decide) hs (isr_mill r hs)
  · exact lk_exc (c := 2) (by kernel_rfl) (by decide) hs (isr_mill r hs)
  · exact lk_exc (c := 2) (by kernel_rfl) (by decide) hs (isr_mill r hs)
  · exact lk_exc (c := 2) (by kernel_rfl) (by decide) hs (isr_mill r hs)
theorem k1_mill {x : D} {h : List D} (hs : sameDs h h = true) (hx : x ∈ badM) : lc lk1 [x] (.tup [.str "mill", x]) h := by
  have r := rp_mill hx
  simp only [badM, List.mem_cons, List.not_mem_nil, or_false] at hx
  rcases hx with rfl | rfl | rfl | rfl | rfl | rfl | rfl | rfl | rfl
  · exact lk_exc (c := 2) (by kernel_rfl) (by decide) hs (isr_mill r hs)
  · exact lk_exc (c := 2) (by kernel_rfl) (by decide) hs (isr_mill r hs)
  · exact lk_exc (c := 2) (by kernel_rfl) (by decide) hs (isr_mill r hs)
  · exact lk_exc (c := 2) (by kernel_rfl) (by decide) hs (isr_mill r hs)
  · exact lk_exc (c := 2) (by kernel_rfl) (by decide) hs (isr_mill r hs)
  · exact lk_exc (c := 2) (by kernel_rfl) (by decide) hs (isr_mill r hs)
  · exact lk_exc (c := 2) (by kernel_rfl) (by decide) hs (isr_mill r hs)
  · exact lk_exc (c := 2) (by kernel_rfl) (by decide) hs (isr_mill r hs)
  · exact lk_exc (c := 2) (by kernel_rfl) (by decide) hs (isr_mill r hs)
theorem k2_mill {x : D} {h : List D} (hs : sameDs h h = true) (hx : x ∈ badM) : lc lk2 [x] (.tup [.str "mill", x]) h := by
  have r := rp_mill hx
  simp only [badM, List.mem_cons, List.not_mem_nil, or_false] at hx
  rcases hx with rfl | rfl | rfl | rfl | rfl | rfl | rfl | rfl | rfl
  · exact lk_exc (c := 2) (by kernel_rfl) (by decide) hs (isr_mill r hs)
  · exact lk_exc (c := 2) (by kernel_rfl) (by decide) hs (isr_mill r hs)
  · exact lk_exc (c := 2) (by kernel_rfl) (by decide) hs (isr_mill r hs)
  · exact lk_exc (c := 2) (by kernel_rfl) (by decide) hs (isr_mill r hs)
  · exact lk_exc (c := 2) (by kernel_rfl) (by decide) hs (isr_mill r hs)
  · exact lk_exc (c := 2) (by kernel_rfl) (by decide) hs (isr_mill r hs)
  · exact lk_exc (c := 2) (by kernel_rfl) (by decide) hs (isr_mill r hs)
  · exact lk_exc (c := 2) (by kernel_rfl) (by decide) hs (isr_mill r hs)
  · exact lk_exc (c := 2) (by kernel_rfl) (by decide) hs (isr_mill r hs)
theorem k3_mill {x : D} {trim : D} {h : List D} (hs : sameDs h h = true) (hx : x ∈ badM) : lc lk3 [x, trim] (.tup [.str "mill", x]) h := by
  have r := rp_mill hx
  simp only [badM, List.mem_cons, List.not_mem_nil, or_false] at hx
  rcases hx with rfl | rfl | rfl | rfl | rfl | rfl | rfl | rfl | rfl
  · exact lk_exc (c := 2) (by kernel_rfl) (by decide) hs (isr_mill r hs)
  · exact lk_exc (c := 2) (by kernel_rfl) (by decide) hs (isr_mill r hs)
  · exact lk_exc (c := 2) (by kernel_rfl) (by decide) hs (isr_mill r hs)
  · exact lk_exc (c := 2) (by kernel_rfl) (by decide) hs (isr_mill r hs)
  · exact lk_exc (c := 2) (by kernel_rfl) (by decide) hs (isr_mill r hs)
  · exact lk_exc (c := 2) (by kernel_rfl) (by decide) hs (isr_mill r hs)
  · exact lk_exc (c := 2) (by kernel_rfl) (by decide) hs (isr_mill r hs)
  · exact lk_exc (c := 2) (by kernel_rfl) (by decide) hs (isr_mill r hs)
  · exact lk_exc (c := 2) (by kernel_rfl) (by decide) hs (isr_mill r hs)
theorem k3_trim {x : D} {h : List D} (hs : sameDs h h = true) (hx : x ∈ badT) : lc lk3 [fineD, x] (.tup [.str "trim", x]) h := by
  have r := rp_trim hx
  simp only [badT, List.mem_cons, List.not_mem_nil, or_false] at hx
  rcases hx with rfl | rfl | rfl | rfl | rfl | rfl | rfl
  · exact lk_exc (c := 5) (by kernel_rfl) (by decide) hs (isr_trim r hs)
  · exact lk_exc (c := 5) (by kernel_rfl) (by decide) hs (isr_trim r hs)
  · exact lk_exc (c := 5) (by kernel_rfl) (by decide) hs (isr_trim r hs)
  · exact lk_exc (c := 5) (by kernel_rfl) (by decide) hs (isr_trim r hs)
  · exact lk_exc (c := 5) (by kernel_rfl) (by decide) hs (isr_trim r hs)
  · exact lk_exc (c := 5) (by kernel_rfl) (by decide) hs (isr_trim r hs)
  · exact lk_exc (c := 5) (by kernel_rfl) (by decide) hs (isr_trim r hs)
theorem k4_mill {x : D} {wind : D} {h : List D} (hs : sameDs h h = true) (hx : x ∈ badM) : lc lk4 [x, wind] (.tup [.str "mill", x]) h := by
  have r := rp_mill hx
  simp only [badM, List.mem_cons, List.not_mem_nil, or_false] at hx
  rcases hx with rfl | rfl | rfl | rfl | rfl | rfl | rfl | rfl | rfl
  · exact lk_exc (c := 2) (by kernel_rfl) (by decide) hs (isr_mill r hs)
  · exact lk_exc (c := 2) (by kernel_rfl) (by decide) hs (isr_mill r hs)
  · exact lk_exc (c := 2) (by kernel_rfl) (by decide) hs (isr_mill r hs)
  · exact lk_exc (c := 2) (by kernel_rfl) (by decide) hs (isr_mill r hs)
  · exact lk_exc (c := 2) (by kernel_rfl) (by decide) hs (isr_mill r hs)
  · exact lk_exc (c := 2) (by kernel_rfl) (by decide) hs (isr_mill r hs)
  · exact lk_exc (c := 2) (by kernel_rfl) (by decide) hs (isr_mill r hs)
  · exact lk_exc (c := 2) (by kernel_rfl) (by decide) hs (isr_mill r hs)
  · exact lk_exc (c := 2) (by kernel_rfl) (by decide) hs (isr_mill r hs)
theorem k4_wind {x : D} {h : List D} (hs : sameDs h h = true) (hx : x ∈ badW) : lc lk4 [fineD, x] (.tup [.str "wind", x]) h := by
  have r := rp_wind hx
  simp only [badW, List.mem_cons, List.not_mem_nil, or_false] at hx
  rcases hx with rfl | rfl | rfl | rfl | rfl
  · exact lk_exc (c := 6) (by kernel_rfl) (by decide) hs (isr_wind r hs)
  · exact lk_exc (c := 6) (by kernel_rfl) (by decide) hs (isr_wind r hs)
  · exact lk_exc (c := 6) (by kernel_rfl) (by decide) hs (isr_wind r hs)
  · exact lk_exc (c := 6) (by kernel_rfl) (by decide) hs (isr_wind r hs)
  · exact lk_exc (c := 6) (by kernel_rfl) (by decide) hs (isr_wind r hs)
theorem k5_mill {x : D} {trim : D} {h : List D} (hs : sameDs h h = true) (hx : x ∈ badM) : lc lk5 [x, trim] (.tup [.str "mill", x]) h := by
  have r := rp_mill hx
  simp only [badM, List.mem_cons, List.not_mem_nil, or_false] at hx
  rcases hx with rfl | rfl | rfl | rfl | rfl | rfl | rfl | rfl | rfl
  · exact lk_exc (c := 2) (by kernel_rfl) (by decide) hs (isr_mill r hs)
  · exact lk_exc (c := 2) (by kernel_rfl) (by decide) hs (isr_mill r hs)
  · exact lk_exc (c := 2) (by kernel_rfl) (by decide) hs (isr_mill r hs)
  · exact lk_exc (c := 2) (by kernel_rfl) (by decide) hs (isr_mill r hs)
  · exact lk_exc (c := 2) (by kernel_rfl) (by decide) hs (isr_mill r hs)
  · exact lk_exc (c := 2) (by kernel_rfl) (by decide) hs (isr_mill r hs)
  · exact lk_exc (c := 2) (by kernel_rfl) (by decide) hs (isr_mill r hs)
  · exact lk_exc (c := 2) (by kernel_rfl) (by decide) hs (isr_mill r hs)
  · exact lk_exc (c := 2) (by kernel_rfl) (by decide) hs (isr_mill r hs)
theorem k5_trim {x : D} {h : List D} (hs : sameDs h h = true) (hx : x ∈ badT) : lc lk5 [fineD, x] (.tup [.str "trim", x]) h := by
  have r := rp_trim hx
  simp only [badT, List.mem_cons, List.not_mem_nil, or_false] at hx
  rcases hx with rfl | rfl | rfl | rfl | rfl | rfl | rfl
  · exact lk_exc (c := 5) (by kernel_rfl) (by decide) hs (isr_trim r hs)
  · exact lk_exc (c := 5) (by kernel_rfl) (by decide) hs (isr_trim r hs)
  · exact lk_exc (c := 5) (by kernel_rfl) (by decide) hs (isr_trim r hs)
  · exact lk_exc (c := 5) (by kernel_rfl) (by decide) hs (isr_trim r hs)
  · exact lk_exc (c := 5) (by kernel_rfl) (by decide) hs (isr_trim r hs)
  · exact lk_exc (c := 5) (by kernel_rfl) (by decide) hs (isr_trim r hs)
  · exact lk_exc (c := 5) (by kernel_rfl) (by decide) hs (isr_trim r hs)
theorem k6_mill {x : D} {trim : D} {h : List D} (hs : sameDs h h = true) (hx : x ∈ badM) : lc lk6 [x, trim] (.tup [.str "mill", x]) h := by
  have r := rp_mill hx
  simp only [badM, List.mem_cons, List.not_mem_nil, or_false] at hx
  rcases hx with rfl | rfl | rfl | rfl | rfl | rfl | rfl | rfl | rfl
  · exact lk_exc (c := 2) (by kernel_rfl) (by decide) hs (isr_mill r hs)
  · exact lk_exc (c := 2) (by kernel_rfl) (by decide) hs (isr_mill r hs)
  · exact lk_exc (c := 2) (by kernel_rfl) (by decide) hs (isr_mill r hs)
  · exact lk_exc (c := 2) (by kernel_rfl) (by decide) hs (isr_mill r hs)
  · exact lk_exc (c := 2) (by kernel_rfl) (by decide) hs (isr_mill r hs)
  · exact lk_exc (c := 2) (by kernel_rfl) (by decide) hs (isr_mill r hs)
  · exact lk_exc (c := 2) (by kernel_rfl) (by decide) hs (isr_mill r hs)
  · exact lk_exc (c := 2) (by kernel_rfl) (by decide) hs (isr_mill r hs)
  · exact lk_exc (c := 2) (by kernel_rfl) (by decide) hs (isr_mill r hs)
theorem k6_trim {x : D} {h : List D} (hs : sameDs h h = true) (hx : x ∈ badT) : lc lk6 [fineD, x] (.tup [.str "trim", x]) h := by
  have r := rp_trim hx
  simp only [badT, List.mem_cons, List.not_mem_nil, or_false] at hx
  rcases hx with rfl | rfl | rfl | rfl | rfl | rfl | rfl
  · exact lk_exc (c := 5) (by kernel_rfl) (by decide) hs (isr_trim r hs)
  · exact lk_exc (c := 5) (by kernel_rfl) (by decide) hs (isr_trim r hs)
  · exact lk_exc (c := 5) (by kernel_rfl) (by decide) hs (isr_trim r hs)
  · exact lk_exc (c := 5) (by kernel_rfl) (by decide) hs (isr_trim r hs)
  · exact lk_exc (c := 5) (by kernel_rfl) (by decide) hs (isr_trim r hs)
  · exact lk_exc (c := 5) (by kernel_rfl) (by decide) hs (isr_trim r hs)
  · exact lk_exc (c := 5) (by kernel_rfl) (by decide) hs (isr_trim r hs)
theorem k7_mill {x : D} {state trim wind : D} {h : List D} (hs : sameDs h h = true) (hx : x ∈ badM) : lc lk7 [x, state, trim, wind] (.tup [.str "mill", x]) h := by
  have r := rp_mill hx
  simp only [badM, List.mem_cons, List.not_mem_nil, or_false] at hx
  rcases hx with rfl | rfl | rfl | rfl | rfl | rfl | rfl | rfl | rfl
  · exact lk_exc (c := 2) (by kernel_rfl) (by decide) hs (isr_mill r hs)
  · exact lk_exc (c := 2) (by kernel_rfl) (by decide) hs (isr_mill r hs)
  · exact lk_exc (c := 2) (by kernel_rfl) (by decide) hs (isr_mill r hs)
  · exact lk_exc (c := 2) (by kernel_rfl) (by decide) hs (isr_mill r hs)
  · exact lk_exc (c := 2) (by kernel_rfl) (by decide) hs (isr_mill r hs)
  · exact lk_exc (c := 2) (by kernel_rfl) (by decide) hs (isr_mill r hs)
  · exact lk_exc (c := 2) (by kernel_rfl) (by decide) hs (isr_mill r hs)
  · exact lk_exc (c := 2) (by kernel_rfl) (by decide) hs (isr_mill r hs)
  · exact lk_exc (c := 2) (by kernel_rfl) (by decide) hs (isr_mill r hs)
theorem k7_state {x : D} {trim wind : D} {h : List D} (hs : sameDs h h = true) (hx : x ∈ badS) : lc lk7 [fineD, x, trim, wind] (.tup [.str "state", x]) h := by
  have r := rp_state hx
  simp only [badS, List.mem_cons, List.not_mem_nil, or_false] at hx
  rcases hx with rfl | rfl | rfl | rfl | rfl | rfl | rfl
  · exact lk_exc (c := 3) (by kernel_rfl) (by decide) hs (isr_state r hs)
  · exact lk_exc (c := 3) (by kernel_rfl) (by decide) hs (isr_state r hs)
  · exact lk_exc (c := 3) (by kernel_rfl) (by decide) hs (isr_state r hs)
  · exact lk_exc (c := 3) (by kernel_rfl) (by decide) hs (isr_state r hs)
  · exact lk_exc (c := 3) (by kernel_rfl) (by decide) hs (isr_state r hs)
  · exact lk_exc (c := 3) (by kernel_rfl) (by decide) hs (isr_state r hs)
  · exact lk_exc (c := 3) (by kernel_rfl) (by decide) hs (isr_state r hs)
theorem k7_trim {x : D} {wind : D} {h : List D} (hs : sameDs h h = true) (hx : x ∈ badT) : lc lk7 [fineD, calmD, x, wind] (.tup [.str "trim", x]) h := by
  have r := rp_trim hx
  simp only [badT, List.mem_cons, List.not_mem_nil, or_false] at hx
  rcases hx with rfl | rfl | rfl | rfl | rfl | rfl | rfl
  · exact lk_exc (c := 5) (by kernel_rfl) (by decide) hs (isr_trim r hs)
  · exact lk_exc (c := 5) (by kernel_rfl) (by decide) hs (isr_trim r hs)
  · exact lk_exc (c := 5) (by kernel_rfl) (by decide) hs (isr_trim r hs)
  · exact lk_exc (c := 5) (by kernel_rfl) (by decide) hs (isr_trim r hs)
  · exact lk_exc (c := 5) (by kernel_rfl) (by decide) hs (isr_trim r hs)
  · exact lk_exc (c := 5) (by kernel_rfl) (by decide) hs (isr_trim r hs)
  · exact lk_exc (c := 5) (by kernel_rfl) (by decide) hs (isr_trim r hs)
theorem k7_wind {x : D} {h : List D} (hs : sameDs h h = true) (hx : x ∈ badW) : lc lk7 [fineD, calmD, trimD, x] (.tup [.str "wind", x]) h := by
  have r := rp_wind hx
  simp only [badW, List.mem_cons, List.not_mem_nil, or_false] at hx
  rcases hx with rfl | rfl | rfl | rfl | rfl
  · exact lk_exc (c := 6) (by kernel_rfl) (by decide) hs (isr_wind r hs)
  · exact lk_exc (c := 6) (by kernel_rfl) (by decide) hs (isr_wind r hs)
  · exact lk_exc (c := 6) (by kernel_rfl) (by decide) hs (isr_wind r hs)
  · exact lk_exc (c := 6) (by kernel_rfl) (by decide) hs (isr_wind r hs)
  · exact lk_exc (c := 6) (by kernel_rfl) (by decide) hs (isr_wind r hs)
theorem k8_mill {x : D} {state trim wind : D} {h : List D} (hs : sameDs h h = true) (hx : x ∈ badM) : lc lk8 [x, state, trim, wind] (.tup [.str "mill", x]) h := by
  have r := rp_mill hx
  simp only [badM, List.mem_cons, List.not_mem_nil, or_false] at hx
  rcases hx with rfl | rfl | rfl | rfl | rfl | rfl | rfl | rfl | rfl
  · exact lk_exc (c := 2) (by kernel_rfl) (by decide) hs (isr_mill r hs)
  · exact lk_exc (c := 2) (by kernel_rfl) (by decide) hs (isr_mill r hs)
  · exact lk_exc (c := 2) (by kernel_rfl) (by decide) hs (isr_mill r hs)
  · exact lk_exc (c := 2) (by kernel_rfl) (by decide) hs (isr_mill r hs)
  · exact lk_exc (c := 2) (by kernel_rfl) (by decide) hs (isr_mill r hs)
  · exact lk_exc (c := 2) (by kernel_rfl) (by decide) hs (isr_mill r hs)
  · exact lk_exc (c := 2) (by kernel_rfl) (by decide) hs (isr_mill r hs)
  · exact lk_exc (c := 2) (by kernel_rfl) (by decide) hs (isr_mill r hs)
  · exact lk_exc (c := 2) (by kernel_rfl) (by decide) hs (isr_mill r hs)
theorem k8_state {x : D} {trim wind : D} {h : List D} (hs : sameDs h h = true) (hx : x ∈ badS) : lc lk8 [fineD, x, trim, wind] (.tup [.str "state", x]) h := by
  have r := rp_state hx
  simp only [badS, List.mem_cons, List.not_mem_nil, or_false] at hx
  rcases hx with rfl | rfl | rfl | rfl | rfl | rfl | rfl
  · exact lk_exc (c := 3) (by kernel_rfl) (by decide) hs (isr_state r hs)
  · exact lk_exc (c := 3) (by kernel_rfl) (by decide) hs (isr_state r hs)
  · exact lk_exc (c := 3) (by kernel_rfl) (by decide) hs (isr_state r hs)
  · exact lk_exc (c := 3) (by kernel_rfl) (by decide) hs (isr_state r hs)
  · exact lk_exc (c := 3) (by kernel_rfl) (by decide) hs (isr_state r hs)
  · exact lk_exc (c := 3) (by kernel_rfl) (by decide) hs (isr_state r hs)
  · exact lk_exc (c := 3) (by kernel_rfl) (by decide) hs (isr_state r hs)
theorem k8_trim {x : D} {wind : D} {h : List D} (hs : sameDs h h = true) (hx : x ∈ badT) : lc lk8 [fineD, calmD, x, wind] (.tup [.str "trim", x]) h := by
  have r := rp_trim hx
  simp only [badT, List.mem_cons, List.not_mem_nil, or_false] at hx
  rcases hx with rfl | rfl | rfl | rfl | rfl | rfl | rfl
  · exact lk_exc (c := 5) (by kernel_rfl) (by decide) hs (isr_trim r hs)
  · exact lk_exc (c := 5) (by kernel_rfl) (by decide) hs (isr_trim r hs)
  · exact lk_exc (c := 5) (by kernel_rfl) (by decide) hs (isr_trim r hs)
  · exact lk_exc (c := 5) (by kernel_rfl) (by decide) hs (isr_trim r hs)
  · exact lk_exc (c := 5) (by kernel_rfl) (by decide) hs (isr_trim r hs)
  · exact lk_exc (c := 5) (by kernel_rfl) (by decide) hs (isr_trim r hs)
  · exact lk_exc (c := 5) (by kernel_rfl) (by decide) hs (isr_trim r hs)
theorem k8_wind {x : D} {h : List D} (hs : sameDs h h = true) (hx : x ∈ badW) : lc lk8 [fineD, calmD, trimD, x] (.tup [.str "wind", x]) h := by
  have r := rp_wind hx
  simp only [badW, List.mem_cons, List.not_mem_nil, or_false] at hx
  rcases hx with rfl | rfl | rfl | rfl | rfl
  · exact lk_exc (c := 6) (by kernel_rfl) (by decide) hs (isr_wind r hs)
  · exact lk_exc (c := 6) (by kernel_rfl) (by decide) hs (isr_wind r hs)
  · exact lk_exc (c := 6) (by kernel_rfl) (by decide) hs (isr_wind r hs)
  · exact lk_exc (c := 6) (by kernel_rfl) (by decide) hs (isr_wind r hs)
  · exact lk_exc (c := 6) (by kernel_rfl) (by decide) hs (isr_wind r hs)
theorem k9_mill {x : D} {state trim wind : D} {h : List D} (hs : sameDs h h = true) (hx : x ∈ badM) : lc lk9 [x, state, trim, wind] (.tup [.str "mill", x]) h := by
  have r := rp_mill hx
  simp only [badM, List.mem_cons, List.not_mem_nil, or_false] at hx
  rcases hx with rfl | rfl | rfl | rfl | rfl | rfl | rfl | rfl | rfl
  · exact lk_exc (c := 2) (by kernel_rfl) (by decide) hs (isr_mill r hs)
  · exact lk_exc (c := 2) (by kernel_rfl) (by decide) hs (isr_mill r hs)
  · exact lk_exc (c := 2) (by kernel_rfl) (by decide) hs (isr_mill r hs)
  · exact lk_exc (c := 2) (by kernel_rfl) (by decide) hs (isr_mill r hs)
  · exact lk_exc (c := 2) (by kernel_rfl) (by decide) hs (isr_mill r hs)
  · exact lk_exc (c := 2) (by kernel_rfl) (by decide) hs (isr_mill r hs)
  · exact lk_exc (c := 2) (by kernel_rfl) (by decide) hs (isr_mill r hs)
  · exact lk_exc (c := 2) (by kernel_rfl) (by decide) hs (isr_mill r hs)
  · exact lk_exc (c := 2) (by kernel_rfl) (by decide) hs (isr_mill r hs)
theorem k9_state {x : D} {trim wind : D} {h : List D} (hs : sameDs h h = true) (hx : x ∈ badS) : lc lk9 [fineD, x, trim, wind] (.tup [.str "state", x]) h := by
  have r := rp_state hx
  simp only [badS, List.mem_cons, List.not_mem_nil, or_false] at hx
  rcases hx with rfl | rfl | rfl | rfl | rfl | rfl | rfl
  · exact lk_exc (c := 3) (by kernel_rfl) (by decide) hs (isr_state r hs)
  · exact lk_exc (c := 3) (by kernel_rfl) (by decide) hs (isr_state r hs)
  · exact lk_exc (c := 3) (by kernel_rfl) (by decide) hs (isr_state r hs)
  · exact lk_exc (c := 3) (by kernel_rfl) (by decide) hs (isr_state r hs)
  · exact lk_exc (c := 3) (by kernel_rfl) (by decide) hs (isr_state r hs)
  · exact lk_exc (c := 3) (by kernel_rfl) (by decide) hs (isr_state r hs)
  · exact lk_exc (c := 3) (by kernel_rfl) (by decide) hs (isr_state r hs)
theorem k9_trim {x : D} {wind : D} {h : List D} (hs : sameDs h h = true) (hx : x ∈ badT) : lc lk9 [fineD, calmD, x, wind] (.tup [.str "trim", x]) h := by
  have r := rp_trim hx
  simp only [badT, List.mem_cons, List.not_mem_nil, or_false] at hx
  rcases hx with rfl | rfl | rfl | rfl | rfl | rfl | rfl
  · exact lk_exc (c := 5) (by kernel_rfl) (by decide) hs (isr_trim r hs)
  · exact lk_exc (c := 5) (by kernel_rfl) (by decide) hs (isr_trim r hs)
  · exact lk_exc (c := 5) (by kernel_rfl) (by decide) hs (isr_trim r hs)
  · exact lk_exc (c := 5) (by kernel_rfl) (by decide) hs (isr_trim r hs)
  · exact lk_exc (c := 5) (by kernel_rfl) (by decide) hs (isr_trim r hs)
  · exact lk_exc (c := 5) (by kernel_rfl) (by decide) hs (isr_trim r hs)
  · exact lk_exc (c := 5) (by kernel_rfl) (by decide) hs (isr_trim r hs)
theorem k9_wind {x : D} {h : List D} (hs : sameDs h h = true) (hx : x ∈ badW) : lc lk9 [fineD, calmD, trimD, x] (.tup [.str "wind", x]) h := by
  have r := rp_wind hx
  simp only [badW, List.mem_cons, List.not_mem_nil, or_false] at hx
  rcases hx with rfl | rfl | rfl | rfl | rfl
  · exact lk_exc (c := 6) (by kernel_rfl) (by decide) hs (isr_wind r hs)
  · exact lk_exc (c := 6) (by kernel_rfl) (by decide) hs (isr_wind r hs)
  · exact lk_exc (c := 6) (by kernel_rfl) (by decide) hs (isr_wind r hs)
  · exact lk_exc (c := 6) (by kernel_rfl) (by decide) hs (isr_wind r hs)
  · exact lk_exc (c := 6) (by kernel_rfl) (by decide) hs (isr_wind r hs)
theorem k10_mill {x : D} {state trim : D} {h : List D} (hs : sameDs h h = true) (hx : x ∈ badM) : lc lk10 [x, state, trim] (.tup [.str "mill", x]) h := by
  have r := rp_mill hx
  simp only [badM, List.mem_cons, List.not_mem_nil, or_false] at hx
  rcases hx with rfl | rfl | rfl | rfl | rfl | rfl | rfl | rfl | rfl
  · exact lk_exc (c := 2) (by kernel_rfl) (by decide) hs (isr_mill r hs)
  · exact lk_exc (c := 2) (by kernel_rfl) (by decide) hs (isr_mill r hs)
  · exact lk_exc (c := 2) (by kernel_rfl) (by decide) hs (isr_mill r hs)
  · exact lk_exc (c := 2) (by kernel_rfl) (by decide) hs (isr_mill r hs)
  · exact lk_exc (c := 2) (by kernel_rfl) (by decide) hs (isr_mill r hs)
  · exact lk_exc (c := 2) (by kernel_rfl) (by decide) hs (isr_mill r hs)
  · exact lk_exc (c := 2) (by kernel_rfl) (by decide) hs (isr_mill r hs)
  · exact lk_exc (c := 2) (by kernel_rfl) (by decide) hs (isr_mill r hs)
  · exact lk_exc (c := 2) (by kernel_rfl) (by decide) hs (isr_mill r hs)
theorem k10_state {x : D} {trim : D} {h : List D} (hs : sameDs h h = true) (hx : x ∈ badS) : lc lk10 [fineD, x, trim] (.tup [.str "state", x]) h := by
  have r := rp_state hx
  simp only [badS, List.mem_cons, List.not_mem_nil, or_false] at hx
  rcases hx with rfl | rfl | rfl | rfl | rfl | rfl | rfl
  · exact lk_exc (c := 3) (by kernel_rfl) (by decide) hs (isr_state r hs)
  · exact lk_exc (c := 3) (by kernel_rfl) (by decide) hs (isr_state r hs)
  · exact lk_exc (c := 3) (by kernel_rfl) (by decide) hs (isr_state r hs)
  · exact lk_exc (c := 3) (by kernel_rfl) (by decide) hs (isr_state r hs)
  · exact lk_exc (c := 3) (by kernel_rfl) (by decide) hs (isr_state r hs)
  · exact lk_exc (c := 3) (by kernel_rfl) (by decide) hs (isr_state r hs)
  · exact lk_exc (c := 3) (by kernel_rfl) (by decide) hs (isr_state r hs)
theorem k10_trim {x : D} {h : List D} (hs : sameDs h h = true) (hx : x ∈ badT) : lc lk10 [fineD, calmD, x] (.tup [.str "trim", x]) h := by
  have r := rp_trim hx
  simp only [badT, List.mem_cons, List.not_mem_nil, or_false] at hx
  rcases hx with rfl | rfl | rfl | rfl | rfl | rfl | rfl
  · exact lk_exc (c := 5) (by kernel_rfl) (by decide) hs (isr_trim r hs)
  · exact lk_exc (c := 5) (by kernel_rfl) (by decide) hs (isr_trim r hs)
  · exact lk_exc (c := 5) (by kernel_rfl) (by decide) hs (isr_trim r hs)
  · exact lk_exc (c := 5) (by kernel_rfl) (by decide) hs (isr_trim r hs)
  · exact lk_exc (c := 5) (by kernel_rfl) (by decide) hs (isr_trim r hs)
  · exact lk_exc (c := 5) (by kernel_rfl) (by decide) hs (isr_trim r hs)
  · exact lk_exc (c := 5) (by kernel_rfl) (by decide) hs (isr_trim r hs)
theorem k11_mill {x : D} {state day : D} {h : List D} (hs : sameDs h h = true) (hx : x ∈ badM) : lc lk11 [x, state, day] (.tup [.str "mill", x]) h := by
  have r := rp_mill hx
  simp only [badM, List.mem_cons, List.not_mem_nil, or_false] at hx
  rcases hx with rfl | rfl | rfl | rfl | rfl | rfl | rfl | rfl | rfl
  · exact lk_exc (c := 2) (by kernel_rfl) (by decide) hs (isr_mill r hs)
  · exact lk_exc (c := 2) (by kernel_rfl) (by decide) hs (isr_mill r hs)
  · exact lk_exc (c := 2) (by kernel_rfl) (by decide) hs (isr_mill r hs)
  · exact lk_exc (c := 2) (by kernel_rfl) (by decide) hs (isr_mill r hs)
  · exact lk_exc (c := 2) (by kernel_rfl) (by decide) hs (isr_mill r hs)
  · exact lk_exc (c := 2) (by kernel_rfl) (by decide) hs (isr_mill r hs)
  · exact lk_exc (c := 2) (by kernel_rfl) (by decide) hs (isr_mill r hs)
  · exact lk_exc (c := 2) (by kernel_rfl) (by decide) hs (isr_mill r hs)
  · exact lk_exc (c := 2) (by kernel_rfl) (by decide) hs (isr_mill r hs)
theorem k11_state {x : D} {day : D} {h : List D} (hs : sameDs h h = true) (hx : x ∈ badS) : lc lk11 [fineD, x, day] (.tup [.str "state", x]) h := by
  have r := rp_state hx
  simp only [badS, List.mem_cons, List.not_mem_nil, or_false] at hx
  rcases hx with rfl | rfl | rfl | rfl | rfl | rfl | rfl
  · exact lk_exc (c := 3) (by kernel_rfl) (by decide) hs (isr_state r hs)
  · exact lk_exc (c := 3) (by kernel_rfl) (by decide) hs (isr_state r hs)
  · exact lk_exc (c := 3) (by kernel_rfl) (by decide) hs (isr_state r hs)
  · exact lk_exc (c := 3) (by kernel_rfl) (by decide) hs (isr_state r hs)
  · exact lk_exc (c := 3) (by kernel_rfl) (by decide) hs (isr_state r hs)
  · exact lk_exc (c := 3) (by kernel_rfl) (by decide) hs (isr_state r hs)
  · exact lk_exc (c := 3) (by kernel_rfl) (by decide) hs (isr_state r hs)
theorem k11_day {x : D} {h : List D} (hs : sameDs h h = true) (hx : x ∈ badD) : lc lk11 [fineD, calmD, x] (.tup [.str "day", x]) h := by
  have r := rp_day hx
  simp only [badD, List.mem_cons, List.not_mem_nil, or_false] at hx
  rcases hx with rfl | rfl | rfl | rfl | rfl | rfl | rfl
  · exact lk_exc (c := 1) (by kernel_rfl) (by decide) hs (isr_day r hs)
  · exact lk_exc (c := 1) (by kernel_rfl) (by decide) hs (isr_day r hs)
  · exact lk_exc (c := 1) (by kernel_rfl) (by decide) hs (isr_day r hs)
  · exact lk_exc (c := 1) (by kernel_rfl) (by decide) hs (isr_day r hs)
  · exact lk_exc (c := 1) (by kernel_rfl) (by decide) hs (isr_day r hs)
  · exact lk_exc (c := 1) (by kernel_rfl) (by decide) hs (isr_day r hs)
  · exact lk_exc (c := 1) (by kernel_rfl) (by decide) hs (isr_day r hs)
theorem k12_mill {x : D} {state day : D} {h : List D} (hs : sameDs h h = true) (hx : x ∈ badM) : lc lk12 [x, state, day] (.tup [.str "mill", x]) h := by
  have r := rp_mill hx
  simp only [badM, List.mem_cons, List.not_mem_nil, or_false] at hx
  rcases hx with rfl | rfl | rfl | rfl | rfl | rfl | rfl | rfl | rfl
  · exact lk_exc (c := 2) (by kernel_rfl) (by decide) hs (isr_mill r hs)
  · exact lk_exc (c := 2) (by kernel_rfl) (by decide) hs (isr_mill r hs)
  · exact lk_exc (c := 2) (by kernel_rfl) (by decide) hs (isr_mill r hs)
  · exact lk_exc (c := 2) (by kernel_rfl) (by decide) hs (isr_mill r hs)
  · exact lk_exc (c := 2) (by kernel_rfl) (by decide) hs (isr_mill r hs)
  · exact lk_exc (c := 2) (by kernel_rfl) (by decide) hs (isr_mill r hs)
  · exact lk_exc (c := 2) (by kernel_rfl) (by decide) hs (isr_mill r hs)
  · exact lk_exc (c := 2) (by kernel_rfl) (by decide) hs (isr_mill r hs)
  · exact lk_exc (c := 2) (by kernel_rfl) (by decide) hs (isr_mill r hs)
theorem k12_state {x : D} {day : D} {h : List D} (hs : sameDs h h = true) (hx : x ∈ badS) : lc lk12 [fineD, x, day] (.tup [.str "state", x]) h := by
  have r := rp_state hx
  simp only [badS, List.mem_cons, List.not_mem_nil, or_false] at hx
  rcases hx with rfl | rfl | rfl | rfl | rfl | rfl | rfl
  · exact lk_exc (c := 3) (by kernel_rfl) (by decide) hs (isr_state r hs)
  · exact lk_exc (c := 3) (by kernel_rfl) (by decide) hs (isr_state r hs)
  · exact lk_exc (c := 3) (by kernel_rfl) (by decide) hs (isr_state r hs)
  · exact lk_exc (c := 3) (by kernel_rfl) (by decide) hs (isr_state r hs)
  · exact lk_exc (c := 3) (by kernel_rfl) (by decide) hs (isr_state r hs)
  · exact lk_exc (c := 3) (by kernel_rfl) (by decide) hs (isr_state r hs)
  · exact lk_exc (c := 3) (by kernel_rfl) (by decide) hs (isr_state r hs)
theorem k12_day {x : D} {h : List D} (hs : sameDs h h = true) (hx : x ∈ badD) : lc lk12 [fineD, calmD, x] (.tup [.str "day", x]) h := by
  have r := rp_day hx
  simp only [badD, List.mem_cons, List.not_mem_nil, or_false] at hx
  rcases hx with rfl | rfl | rfl | rfl | rfl | rfl | rfl
  · exact lk_exc (c := 1) (by kernel_rfl) (by decide) hs (isr_day r hs)
  · exact lk_exc (c := 1) (by kernel_rfl) (by decide) hs (isr_day r hs)
  · exact lk_exc (c := 1) (by kernel_rfl) (by decide) hs (isr_day r hs)
  · exact lk_exc (c := 1) (by kernel_rfl) (by decide) hs (isr_day r hs)
  · exact lk_exc (c := 1) (by kernel_rfl) (by decide) hs (isr_day r hs)
  · exact lk_exc (c := 1) (by kernel_rfl) (by decide) hs (isr_day r hs)
  · exact lk_exc (c := 1) (by kernel_rfl) (by decide) hs (isr_day r hs)
theorem k13_mill {x : D} {state : D} {h : List D} (hs : sameDs h h = true) (hx : x ∈ badM) : lc lk13 [x, state] (.tup [.str "mill", x]) h := by
  have r := rp_mill hx
  simp only [badM, List.mem_cons, List.not_mem_nil, or_false] at hx
  rcases hx with rfl | rfl | rfl | rfl | rfl | rfl | rfl | rfl | rfl
  · exact lk_exc (c := 2) (by kernel_rfl) (by decide) hs (isr_mill r hs)
  · exact lk_exc (c := 2) (by kernel_rfl) (by decide) hs (isr_mill r hs)
  · exact lk_exc (c := 2) (by kernel_rfl) (by decide) hs (isr_mill r hs)
  · exact lk_exc (c := 2) (by kernel_rfl) (by decide) hs (isr_mill r hs)
  · exact lk_exc (c := 2) (by kernel_rfl) (by decide) hs (isr_mill r hs)
  · exact lk_exc (c := 2) (by kernel_rfl) (by decide) hs (isr_mill r hs)
  · exact lk_exc (c := 2) (by kernel_rfl) (by decide) hs (isr_mill r hs)
  · exact lk_exc (c := 2) (by kernel_rfl) (by decide) hs (isr_mill r hs)
  · exact lk_exc (c := 2) (by kernel_rfl) (by decide) hs (isr_mill r hs)
theorem k13_state {x : D} {h : List D} (hs : sameDs h h = true) (hx : x ∈ badS) : lc lk13 [fineD, x] (.tup [.str "state", x]) h := by
  have r := rp_state hx
  simp only [badS, List.mem_cons, List.not_mem_nil, or_false] at hx
  rcases hx with rfl | rfl | rfl | rfl | rfl | rfl | rfl
  · exact lk_exc (c := 3) (by kernel_rfl) (by decide) hs (isr_state r hs)
  · exact lk_exc (c := 3) (by kernel_rfl) (by decide) hs (isr_state r hs)
  · exact lk_exc (c := 3) (by kernel_rfl) (by decide) hs (isr_state r hs)
  · exact lk_exc (c := 3) (by kernel_rfl) (by decide) hs (isr_state r hs)
  · exact lk_exc (c := 3) (by kernel_rfl) (by decide) hs (isr_state r hs)
  · exact lk_exc (c := 3) (by kernel_rfl) (by decide) hs (isr_state r hs)
  · exact lk_exc (c := 3) (by kernel_rfl) (by decide) hs (isr_state r hs)
theorem k14_mill {x : D} {state other : D} {h : List D} (hs : sameDs h h = true) (hx : x ∈ badM) : lc lk14 [x, state, other] (.tup [.str "mill", x]) h := by
  have r := rp_mill hx
  simp only [badM, List.mem_cons, List.not_mem_nil, or_false] at hx
  rcases hx with rfl | rfl | rfl | rfl | rfl | rfl | rfl | rfl | rfl
  · exact lk_exc (c := 2) (by kernel_rfl) (by decide) hs (isr_mill r hs)
  · exact lk_exc (c := 2) (by kernel_rfl) (by decide) hs (isr_mill r hs)
  · exact lk_exc (c := 2) (by kernel_rfl) (by decide) hs (isr_mill r hs)
  · exact lk_exc (c := 2) (by kernel_rfl) (by decide) hs (isr_mill r hs)
  · exact lk_exc (c := 2) (by kernel_rfl) (by decide) hs (isr_mill r hs)
  · exact lk_exc (c := 2) (by kernel_rfl) (by decide) hs (isr_mill r hs)
  · exact lk_exc (c := 2) (by kernel_rfl) (by decide) hs (isr_mill r hs)
  · exact lk_exc (c := 2) (by kernel_rfl) (by decide) hs (isr_mill r hs)
  · exact lk_exc (c := 2) (by kernel_rfl) (by decide) hs (isr_mill r hs)
theorem k14_state {x : D} {other : D} {h : List D} (hs : sameDs h h = true) (hx : x ∈ badS) : lc lk14 [fineD, x, other] (.tup [.str "state", x]) h := by
  have r := rp_state hx
  simp only [badS, List.mem_cons, List.not_mem_nil, or_false] at hx
  rcases hx with rfl | rfl | rfl | rfl | rfl | rfl | rfl
  · exact lk_exc (c := 3) (by kernel_rfl) (by decide) hs (isr_state r hs)
  · exact lk_exc (c := 3) (by kernel_rfl) (by decide) hs (isr_state r hs)
  · exact lk_exc (c := 3) (by kernel_rfl) (by decide) hs (isr_state r hs)
  · exact lk_exc (c := 3) (by kernel_rfl) (by decide) hs (isr_state r hs)
  · exact lk_exc (c := 3) (by kernel_rfl) (by decide) hs (isr_state r hs)
  · exact lk_exc (c := 3) (by kernel_rfl) (by decide) hs (isr_state r hs)
  · exact lk_exc (c := 3) (by kernel_rfl) (by decide) hs (isr_state r hs)
theorem k14_other {x : D} {h : List D} (hs : sameDs h h = true) (hx : x ∈ badO) : lc lk14 [fineD, calmD, x] (.tup [.str "state", x]) h := by
  have r := rp_other hx
  simp only [badO, List.mem_cons, List.not_mem_nil, or_false] at hx
  rcases hx with rfl | rfl | rfl
  · exact lk_exc (c := 3) (by kernel_rfl) (by decide) hs (isr_state r hs)
  · exact lk_exc (c := 3) (by kernel_rfl) (by decide) hs (isr_state r hs)
  · exact lk_exc (c := 3) (by kernel_rfl) (by decide) hs (isr_state r hs)
theorem k15_mill {x : D} {state other : D} {h : List D} (hs : sameDs h h = true) (hx : x ∈ badM) : lc lk15 [x, state, other] (.tup [.str "mill", x]) h := by
  have r := rp_mill hx
  simp only [badM, List.mem_cons, List.not_mem_nil, or_false] at hx
  rcases hx with rfl | rfl | rfl | rfl | rfl | rfl | rfl | rfl | rfl
  · exact lk_exc (c := 2) (by kernel_rfl) (by decide) hs (isr_mill r hs)
  · exact lk_exc (c := 2) (by kernel_rfl) (by decide) hs (isr_mill r hs)
  · exact lk_exc (c := 2) (by kernel_rfl) (by decide) hs (isr_mill r hs)
  · exact lk_exc (c := 2) (by kernel_rfl) (by decide) hs (isr_mill r hs)
  · exact lk_exc (c := 2) (by kernel_rfl) (by decide) hs (isr_mill r hs)
  · exact lk_exc (c := 2) (by kernel_rfl) (by decide) hs (isr_mill r hs)
  · exact lk_exc (c := 2) (by kernel_rfl) (by decide) hs (isr_mill r hs)
  · exact lk_exc (c := 2) (by kernel_rfl) (by decide) hs (isr_mill r hs)
  · exact lk_exc (c := 2) (by kernel_rfl) (by decide) hs (isr_mill r hs)
theorem k15_state {x : D} {other : D} {h : List D} (hs : sameDs h h = true) (hx : x ∈ badS) : lc lk15 [fineD, x, other] (.tup [.str "state", x]) h := by
  have r := rp_state hx
  simp only [badS, List.mem_cons, List.not_mem_nil, or_false] at hx
  rcases hx with rfl | rfl | rfl | rfl | rfl | rfl | rfl
  · exact lk_exc (c := 3) (by kernel_rfl) (by decide) hs (isr_state r hs)
  · exact lk_exc (c := 3) (by kernel_rfl) (by decide) hs (isr_state r hs)
  · exact lk_exc (c := 3) (by kernel_rfl) (by decide) hs (isr_state r hs)
  · exact lk_exc (c := 3) (by kernel_rfl) (by decide) hs (isr_state r hs)
  · exact lk_exc (c := 3) (by kernel_rfl) (by decide) hs (isr_state r hs)
  · exact lk_exc (c := 3) (by kernel_rfl) (by decide) hs (isr_state r hs)
  · exact lk_exc (c := 3) (by kernel_rfl) (by decide) hs (isr_state r hs)
theorem k15_other {x : D} {h : List D} (hs : sameDs h h = true) (hx : x ∈ badO) : lc lk15 [fineD, calmD, x] (.tup [.str "state", x]) h := by
  have r := rp_other hx
  simp only [badO, List.mem_cons, List.not_mem_nil, or_false] at hx
  rcases hx with rfl | rfl | rfl
  · exact lk_exc (c := 3) (by kernel_rfl) (by decide) hs (isr_state r hs)
  · exact lk_exc (c := 3) (by kernel_rfl) (by decide) hs (isr_state r hs)
  · exact lk_exc (c := 3) (by kernel_rfl) (by decide) hs (isr_state r hs)
theorem k16_mill {x : D} {state ticks : D} {h : List D} (hs : sameDs h h = true) (hx : x ∈ badM) : lc lk16 [x, state, ticks] (.tup [.str "mill", x]) h := by
  have r := rp_mill hx
  simp only [badM, List.mem_cons, List.not_mem_nil, or_false] at hx
  rcases hx with rfl | rfl | rfl | rfl | rfl | rfl | rfl | rfl | rfl
  · exact lk_exc (c := 2) (by kernel_rfl) (by decide) hs (isr_mill r hs)
  · exact lk_exc (c := 2) (by kernel_rfl) (by decide) hs (isr_mill r hs)
  · exact lk_exc (c := 2) (by kernel_rfl) (by decide) hs (isr_mill r hs)
  · exact lk_exc (c := 2) (by kernel_rfl) (by decide) hs (isr_mill r hs)
  · exact lk_exc (c := 2) (by kernel_rfl) (by decide) hs (isr_mill r hs)
  · exact lk_exc (c := 2) (by kernel_rfl) (by decide) hs (isr_mill r hs)
  · exact lk_exc (c := 2) (by kernel_rfl) (by decide) hs (isr_mill r hs)
  · exact lk_exc (c := 2) (by kernel_rfl) (by decide) hs (isr_mill r hs)
  · exact lk_exc (c := 2) (by kernel_rfl) (by decide) hs (isr_mill r hs)
theorem k16_state {x : D} {ticks : D} {h : List D} (hs : sameDs h h = true) (hx : x ∈ badS) : lc lk16 [fineD, x, ticks] (.tup [.str "state", x]) h := by
  have r := rp_state hx
  simp only [badS, List.mem_cons, List.not_mem_nil, or_false] at hx
  rcases hx with rfl | rfl | rfl | rfl | rfl | rfl | rfl
  · exact lk_exc (c := 3) (by kernel_rfl) (by decide) hs (isr_state r hs)
  · exact lk_exc (c := 3) (by kernel_rfl) (by decide) hs (isr_state r hs)
  · exact lk_exc (c := 3) (by kernel_rfl) (by decide) hs (isr_state r hs)
  · exact lk_exc (c := 3) (by kernel_rfl) (by decide) hs (isr_state r hs)
  · exact lk_exc (c := 3) (by kernel_rfl) (by decide) hs (isr_state r hs)
  · exact lk_exc (c := 3) (by kernel_rfl) (by decide) hs (isr_state r hs)
  · exact lk_exc (c := 3) (by kernel_rfl) (by decide) hs (isr_state r hs)
theorem k16_ticks {x : D} {h : List D} (hs : sameDs h h = true) (hx : x ∈ badK) : lc lk16 [fineD, calmD, x] (.tup [.str "ticks", x]) h := by
  have r := rp_ticks hx
  simp only [badK, List.mem_cons, List.not_mem_nil, or_false] at hx
  rcases hx with rfl | rfl | rfl | rfl | rfl
  · exact lk_exc (c := 4) (by kernel_rfl) (by decide) hs (isr_ticks r hs)
  · exact lk_exc (c := 4) (by kernel_rfl) (by decide) hs (isr_ticks r hs)
  · exact lk_exc (c := 4) (by kernel_rfl) (by decide) hs (isr_ticks r hs)
  · exact lk_exc (c := 4) (by kernel_rfl) (by decide) hs (isr_ticks r hs)
  · exact lk_exc (c := 4) (by kernel_rfl) (by decide) hs (isr_ticks r hs)
theorem k17_mill {x : D} {state ticks : D} {h : List D} (hs : sameDs h h = true) (hx : x ∈ badM) : lc lk17 [x, state, ticks] (.tup [.str "mill", x]) h := by
  have r := rp_mill hx
  simp only [badM, List.mem_cons, List.not_mem_nil, or_false] at hx
  rcases hx with rfl | rfl | rfl | rfl | rfl | rfl | rfl | rfl | rfl
  · exact lk_exc (c := 2) (by kernel_rfl) (by decide) hs (isr_mill r hs)
  · exact lk_exc (c := 2) (by kernel_rfl) (by decide) hs (isr_mill r hs)
  · exact lk_exc (c := 2) (by kernel_rfl) (by decide) hs (isr_mill r hs)
  · exact lk_exc (c := 2) (by kernel_rfl) (by decide) hs (isr_mill r hs)
  · exact lk_exc (c := 2) (by kernel_rfl) (by decide) hs (isr_mill r hs)
  · exact lk_exc (c := 2) (by kernel_rfl) (by decide) hs (isr_mill r hs)
  · exact lk_exc (c := 2) (by kernel_rfl) (by decide) hs (isr_mill r hs)
  · exact lk_exc (c := 2) (by kernel_rfl) (by decide) hs (isr_mill r hs)
  · exact lk_exc (c := 2) (by kernel_rfl) (by decide) hs (isr_mill r hs)
theorem k17_state {x : D} {ticks : D} {h : List D} (hs : sameDs h h = true) (hx : x ∈ badS) : lc lk17 [fineD, x, ticks] (.tup [.str "state", x]) h := by
  have r := rp_state hx
  simp only [badS, List.mem_cons, List.not_mem_nil, or_false] at hx
  rcases hx with rfl | rfl | rfl | rfl | rfl | rfl | rfl
  · exact lk_exc (c := 3) (by kernel_rfl) (by decide) hs (isr_state r hs)
  · exact lk_exc (c := 3) (by kernel_rfl) (by decide) hs (isr_state r hs)
  · exact lk_exc (c := 3) (by kernel_rfl) (by decide) hs (isr_state r hs)
  · exact lk_exc (c := 3) (by kernel_rfl) (by decide) hs (isr_state r hs)
  · exact lk_exc (c := 3) (by kernel_rfl) (by decide) hs (isr_state r hs)
  · exact lk_exc (c := 3) (by kernel_rfl) (by decide) hs (isr_state r hs)
  · exact lk_exc (c := 3) (by kernel_rfl) (by decide) hs (isr_state r hs)
theorem k17_ticks {x : D} {h : List D} (hs : sameDs h h = true) (hx : x ∈ badK) : lc lk17 [fineD, calmD, x] (.tup [.str "ticks", x]) h := by
  have r := rp_ticks hx
  simp only [badK, List.mem_cons, List.not_mem_nil, or_false] at hx
  rcases hx with rfl | rfl | rfl | rfl | rfl
  · exact lk_exc (c := 4) (by kernel_rfl) (by decide) hs (isr_ticks r hs)
  · exact lk_exc (c := 4) (by kernel_rfl) (by decide) hs (isr_ticks r hs)
  · exact lk_exc (c := 4) (by kernel_rfl) (by decide) hs (isr_ticks r hs)
  · exact lk_exc (c := 4) (by kernel_rfl) (by decide) hs (isr_ticks r hs)
  · exact lk_exc (c := 4) (by kernel_rfl) (by decide) hs (isr_ticks r hs)
end K86
end Vi
/-! text Ld9 -/
set_option Elab.async false
set_option linter.all false
set_option maxRecDepth 100000
set_option maxHeartbeats 4000000
namespace Vi
open PySem PySem.Spec PyProof.Rows L2
namespace K86
theorem k0_fine {h : List D} (hs : sameDs h h = true) : lc lk0 [fineD] .non h := lk_fine (by kernel_rfl) hs
theorem k1_fine {h : List D} (hs : sameDs h h = true) : lc lk1 [fineD] .non h := lk_fine (by kernel_rfl) hs
theorem k2_fine {h : List D} (hs : sameDs h h = true) : lc lk2 [fineD] .non h := lk_fine (by kernel_rfl) hs
theorem k3_fine {h : List D} (hs : sameDs h h = true) : lc lk3 [fineD, trimD] .non h := lk_fine (by kernel_rfl) hs
theorem k4_fine {h : List D} (hs : sameDs h h = true) : lc lk4 [fineD, (.int 1)] .non h := lk_fine (by kernel_rfl) hs
theorem k5_fine {h : List D} (hs : sameDs h h = true) : lc lk5 [fineD, trimD] .non h := lk_fine (by kernel_rfl) hs
theorem k6_fine {h : List D} (hs : sameDs h h = true) : lc lk6 [fineD, trimD] .non h := lk_fine (by kernel_rfl) hs
theorem k7_fine {h : List D} (hs : sameDs h h = true) : lc lk7 [fineD, calmD, trimD, (.int 1)] .non h := lk_fine (by kernel_rfl) hs
theorem k8_fine {h : List D} (hs : sameDs h h = true) : lc lk8 [fineD, calmD, trimD, (.int 1)] .non h := lk_fine (by kernel_rfl) hs
theorem k9_fine {h : List D} (hs : sameDs h h = true) : lc lk9 [fineD, calmD, trimD, (.int 1)] .non h := lk_fine (by kernel_rfl) hs
theorem k10_fine {h : List D} (hs : sameDs h h = true) : lc lk10 [fineD, calmD, trimD] .non h := lk_fine (by kernel_rfl) hs
theorem k11_fine {h : List D} (hs : sameDs h h = true) : lc lk11 [fineD, calmD, goodD] .non h := lk_fine (by kernel_rfl) hs
theorem k12_fine {h : List D} (hs : sameDs h h = true) : lc lk12 [fineD, calmD, goodD] .non h := lk_fine (by kernel_rfl) hs
theorem k13_fine {h : List D} (hs : sameDs h h = true) : lc lk13 [fineD, calmD] .non h := lk_fine (by kernel_rfl) hs
theorem k14_fine {h : List D} (hs : sameDs h h = true) : lc lk14 [fineD, calmD, calmD] .non h := lk_fine (by kernel_rfl) hs
theorem k15_fine {h : List D} (hs : sameDs h h = true) : lc lk15 [fineD, calmD, calmD] .non h := lk_fine (by kernel_rfl) hs
theorem k16_fine {h : List D} (hs : sameDs h h = true) : lc lk16 [fineD, calmD, (.int 3)] .non h := lk_fine (by kernel_rfl) hs
theorem k17_fine {h : List D} (hs : sameDs h h = true) : lc lk17 [fineD, calmD, (.int 3)] .non h := lk_fine (by kernel_rfl) hs
end K86
end Vi
/-! text Ld10 -/
set_option Elab.async false
set_option linter.all false
set_option maxRecDepth 100000
set_option maxHeartbeats 4000000
namespace Vi
open PySem PySem.Spec PyProof.Rows L2
namespace K86
def few (l : List D) : Prop := l = [] ∨ ∃ t, l = [t]
theorem IsP.few {good x : D} {bad l : List D} {nm : Str} (p : IsP good bad nm x l) : few l := p.elim (fun z => .inl z.2) fun z => .inr ⟨_, z.2⟩
abbrev sC (j : Nat) (y : Sl) (mill state other trim wind day ticks : D) (m s o t w d k : List D) : List Sl := sg j y (.s mill) (.s calmD) (.s state) (.s other) (.s trim) (.s wind) (.s goodD) (.s day) (.s ticks) (.s (.lst m)) (.o (.lst s)) (.o (.lst o)) (.o (.lst t)) (.o (.lst w)) (.o (.lst d)) (.o (.lst k))
theorem due0 {j : Nat} {y : Sl} {mill state other trim wind day ticks : D} {m s o t w d k h : List D} : Vi.bind (ev4 gv ar (Ψ 10) rtD.b.due).v esc ⟨sB j y mill state other trim wind day ticks (.o (.lst m)) (.o (.lst s)) (.o (.lst o)) (.o (.lst t)) (.o (.lst w)) (.o (.lst d)) (.o (.lst k)), h⟩ = .ok (.lst m) ⟨sC j y mill state other trim wind day ticks m s o t w d k, h⟩ := by kernel_rfl
theorem dues_ok {j : Nat} {y : Sl} {mill state other trim wind day ticks : D} {m s o t w d k h : List D} (pm : few m) (ps : few s) (po : few o) (pt : few t) (pw : few w) (pd : few d) (pk : few k) :
    dues (rtD.bs.map fun b => (ev4 gv ar (Ψ 10) b.due).v) ⟨sC j y mill state other trim wind day ticks m s o t w d k, h⟩ = .ok [.lst m, .lst m, .lst (m ++ t), .lst (m ++ w), .lst (m ++ t), .lst (m ++ t), .lst (m ++ s ++ t ++ w), .lst (m ++ s ++ t ++ w), .lst (m ++ s ++ t ++ w), .lst (m ++ s ++ t), .lst (m ++ s ++ d), .lst (m ++ s ++ d), .lst (m ++ s), .lst (m ++ s ++ o), .lst (m ++ s ++ o), .lst (m ++ s ++ k), .lst (m ++ s ++ k)] ⟨sC j y mill state other trim wind day ticks m s o t w d k, h⟩ := by
  rcases pm with rfl | ⟨_, rfl⟩ <;> rcases ps with rfl | ⟨_, rfl⟩ <;> rcases po with rfl | ⟨_, rfl⟩ <;> rcases pt with rfl | ⟨_, rfl⟩ <;> rcases pw with rfl | ⟨_, rfl⟩ <;> rcases pd with rfl | ⟨_, rfl⟩ <;> rcases pk with rfl | ⟨_, rfl⟩ <;> kernel_rfl
theorem idx0_of {l : List D} (hl : l.length < 100) : idx0 (.lst l) = some (l.headD .non) := by
  unfold idx0
  dsimp only
  rw [if_pos (by show l.length + 1 ≤ 16777216; omega)]
  cases l <;> rfl
theorem chk_cons {n nr : Nat} {ms : MS} {T : LkT} {Ts : List LkT} {d x : D} {ds cds : List D} {S : St} (h1 : capD S.σ T.js = some cds) (h2 : idx0 d = some x) (h3 : lkCheck n ms nr T cds x S.h = true) (h4 : chkLk n ms nr Ts ds S = true) : chkLk n ms nr (T :: Ts) (d :: ds) S = true := by
  unfold chkLk
  rw [h1, h2, h4]
  dsimp only
  rw [h3]; rfl
end K86
end Vi
/-! text Ld11 -/
set_option Elab.async false
set_option linter.all false
set_option maxRecDepth 100000
set_option maxHeartbeats 4000000
namespace Vi
open PySem PySem.Spec PyProof.Rows L2
namespace K86
theorem few_len {l : List D} (h : few l) : l.length ≤ 1 := by
  rcases h with rfl | ⟨_, rfl⟩ <;> simp
theorem L0 {mill : D} {m h : List D} (hs : sameDs h h = true) (pm : IsP fineD badM "mill" mill m) : ∃ x, idx0 (.lst (m)) = some x ∧ lc lk0 [mill] x h := by
  have hl : (m).length < 100 := by
    have q : (m).length ≤ 1 := by
      try simp only [List.length_append]
      have := few_len pm.few
      omega
    omega
  refine ⟨_, idx0_of hl, ?_⟩
  clear hl
  rcases pm with ⟨rfl, rfl⟩ | ⟨hx, rfl⟩
  rotate_left
  · exact k0_mill hs hx
  exact k0_fine hs
theorem L1 {mill : D} {m h : List D} (hs : sameDs h h = true) (pm : IsP fineD badM "mill" mill m) : ∃ x, idx0 (.lst (m)) = some x ∧ lc lk1 [mill] x h := by
  have hl : (m).length < 100 := by
    have q : (m).length ≤ 1 := by
      try simp only [List.length_append]
      have := few_len pm.few
      omega
    omega
  refine ⟨_, idx0_of hl, ?_⟩
  clear hl
  rcases pm with ⟨rfl, rfl⟩ | ⟨hx, rfl⟩
  rotate_left
  · exact k1_mill hs hx
  exact k1_fine hs
theorem L2 {mill : D} {m h : List D} (hs : sameDs h h = true) (pm : IsP fineD badM "mill" mill m) : ∃ x, idx0 (.lst (m)) = some x ∧ lc lk2 [mill] x h := by
  have hl : (m).length < 100 := by
    have q : (m).length ≤ 1 := by
      try simp only [List.length_append]
      have := few_len pm.few
      omega
    omega
  refine ⟨_, idx0_of hl, ?_⟩
  clear hl
  rcases pm with ⟨rfl, rfl⟩ | ⟨hx, rfl⟩
  rotate_left
  · exact k2_mill hs hx
  exact k2_fine hs
theorem L3 {mill trim : D} {m t h : List D} (hs : sameDs h h = true) (pm : IsP fineD badM "mill" mill m) (pt : IsP trimD badT "trim" trim t) : ∃ x, idx0 (.lst (m ++ t)) = some x ∧ lc lk3 [mill, trim] x h := by
  have hl : (m ++ t).length < 100 := by
    have q : (m ++ t).length ≤ 2 := by
      try simp only [List.length_append]
      have := few_len pm.few
      have := few_len pt.few
      omega
    omega
  refine ⟨_, idx0_of hl, ?_⟩
  clear hl
  rcases pm with ⟨rfl, rfl⟩ | ⟨hx, rfl⟩
  rotate_left
  · exact k3_mill hs hx
  rcases pt with ⟨rfl, rfl⟩ | ⟨hx, rfl⟩
  rotate_left
  · exact k3_trim hs hx
  exact k3_fine hs
theorem L4 {mill wind : D} {m w h : List D} (hs : sameDs h h = true) (pm : IsP fineD badM "mill" mill m) (pw : IsP (.int 1) badW "wind" wind w) : ∃ x, idx0 (.lst (m ++ w)) = some x ∧ lc lk4 [mill, wind] x h := by
  have hl : (m ++ w).length < 100 := by
    have q : (m ++ w).length ≤ 2 := by
      try simp only [List.length_append]
      have := few_len pm.few
      have := few_len pw.few
      omega
    omega
  refine ⟨_, idx0_of hl, ?_⟩
  clear hl
  rcases pm with ⟨rfl, rfl⟩ | ⟨hx, rfl⟩
  rotate_left
  · exact k4_mill hs hx
  rcases pw with ⟨rfl, rfl⟩ | ⟨hx, rfl⟩
  rotate_left
  · exact k4_wind hs hx
  exact k4_fine hs
theorem L5 {mill trim : D} {m t h : List D} (hs : sameDs h h = true) (pm : IsP fineD badM "mill" mill m) (pt : IsP trimD badT "trim" trim t) : ∃ x, idx0 (.lst (m ++ t)) = some x ∧ lc lk5 [mill, trim] x h := by
  have hl : (m ++ t).length < 100 := by
    have q : (m ++ t).length ≤ 2 := by
      try simp only [List.length_append]
      have := few_len pm.few
      have := few_len pt.few
      omega
    omega
  refine ⟨_, idx0_of hl, ?_⟩
  clear hl
  rcases pm with ⟨rfl, rfl⟩ | ⟨hx, rfl⟩
  rotate_left
  · exact k5_mill hs hx
  rcases pt with ⟨rfl, rfl⟩ | ⟨hx, rfl⟩
  rotate_left
  · exact k5_trim hs hx
  exact k5_fine hs
theorem L6 {mill trim : D} {m t h : List D} (hs : sameDs h h = true) (pm : IsP fineD badM "mill" mill m) (pt : IsP trimD badT "trim" trim t) : ∃ x, idx0 (.lst (m ++ t)) = some x ∧ lc lk6 [mill, trim] x h := by
  have hl : (m ++ t).length < 100 := by
    have q : (m ++ t).length ≤ 2 := by
      try simp only [List.length_append]
      have := few_len pm.few
      have := few_len pt.few
      omega
    omega
  refine ⟨_, idx0_of hl, ?_⟩
  clear hl
  rcases pm with ⟨rfl, rfl⟩ | ⟨hx, rfl⟩
  rotate_left
  · exact k6_mill hs hx
  rcases pt with ⟨rfl, rfl⟩ | ⟨hx, rfl⟩
  rotate_left
  · exact k6_trim hs hx
  exact k6_fine hs
theorem L7 {mill state trim wind : D} {m s t w h : List D} (hs : sameDs h h = true) (pm : IsP fineD badM "mill" mill m) (ps : IsP calmD badS "state" state s) (pt : IsP trimD badT "trim" trim t) (pw : IsP (.int 1) badW "wind" wind w) : ∃ x, idx0 (.lst (m ++ s ++ t ++ w)) = some x ∧ lc lk7 [mill, state, trim, wind] x h := by
  have hl : (m ++ s ++ t ++ w).length < 100 := by
    have q : (m ++ s ++ t ++ w).length ≤ 4 := by
      try simp only [List.length_append]
      have := few_len pm.few
      have := few_len ps.few
      have := few_len pt.few
      have := few_len pw.few
      omega
    omega
  refine ⟨_, idx0_of hl, ?_⟩
  clear hl
  rcases pm with ⟨rfl, rfl⟩ | ⟨hx, rfl⟩
  rotate_left
  · exact k7_mill hs hx
  rcases ps with ⟨rfl, rfl⟩ | ⟨hx, rfl⟩
  rotate_left
  · exact k7_state hs hx
  rcases pt with ⟨rfl, rfl⟩ | ⟨hx, rfl⟩
  rotate_left
  · exact k7_trim hs hx
  rcases pw with ⟨rfl, rfl⟩ | ⟨hx, rfl⟩
  rotate_left
  · exact k7_wind hs hx
  exact k7_fine hs
theorem L8 {mill state trim wind : D} {m s t w h : List D} (hs : sameDs h h = true) (pm : IsP fineD badM "mill" mill m) (ps : IsP calmD badS "state" state s) (pt : IsP trimD badT "trim" trim t) (pw : IsP (.int 1) badW "wind" wind w) : ∃ x, idx0 (.lst (m ++ s ++ t ++ w)) = some x ∧ lc lk8 [mill, state, trim, wind] x h := by
  have hl : (m ++ s ++ t ++ w).length < 100 := by
    have q : (m ++ s ++ t ++ w).length ≤ 4 := by
      try simp only [List.length_append]
      have := few_len pm.few
      have := few_len ps.few
      have := few_len pt.few
      have := few_len pw.few
      omega
    omega
  refine ⟨_, idx0_of hl, ?_⟩
  clear hl
  rcases pm with ⟨rfl, rfl⟩ | ⟨hx, rfl⟩
  rotate_left
  · exact k8_mill hs hx
  rcases ps with ⟨rfl, rfl⟩ | ⟨hx, rfl⟩
  rotate_left
  · exact k8_state hs hx
  rcases pt with ⟨rfl, rfl⟩ | ⟨hx, rfl⟩
  rotate_left
  · exact k8_trim hs hx
  rcases pw with ⟨rfl, rfl⟩ | ⟨hx, rfl⟩
  rotate_left
  · exact k8_wind hs hx
  exact k8_fine hs
theorem L9 {mill state trim wind : D} {m s t w h : List D} (hs : sameDs h h = true) (pm : IsP fineD badM "mill" mill m) (ps : IsP calmD badS "state" state s) (pt : IsP trimD badT "trim" trim t) (pw : IsP (.int 1) badW "wind" wind w) : ∃ x, idx0 (.lst (m ++ s ++ t ++ w)) = some x ∧ lc lk9 [mill, state, trim, wind] x h := by
  have hl : (m ++ s ++ t ++ w).length < 100 := by
    have q : (m ++ s ++ t ++ w).length ≤ 4 := by
      try simp only [List.length_append]
      have := few_len pm.few
      have := few_len ps.few
      have := few_len pt.few
      have := few_len pw.few
      omega
    omega
  refine ⟨_, idx0_of hl, ?_⟩
  clear hl
  rcases pm with ⟨rfl, rfl⟩ | ⟨hx, rfl⟩
  rotate_left
  · exact k9_mill hs hx
  rcases ps with ⟨rfl, rfl⟩ | ⟨hx, rfl⟩
  rotate_left
  · exact k9_state hs hx
  rcases pt with ⟨rfl, rfl⟩ | ⟨hx, rfl⟩
  rotate_left
  · exact k9_trim hs hx
  rcases pw with ⟨rfl, rfl⟩ | ⟨hx, rfl⟩
  rotate_left
  · exact k9_wind hs hx
  exact k9_fine hs
theorem L10 {mill state trim : D} {m s t h : List D} (hs : sameDs h h = true) (pm : IsP fineD badM "mill" mill m) (ps : IsP calmD badS "state" state s) (pt : IsP trimD badT "trim" trim t) : ∃ x, idx0 (.lst (m ++ s ++ t)) = some x ∧ lc lk10 [mill, state, trim] x h := by
  have hl : (m ++ s ++ t).length < 100 := by
    have q : (m ++ s ++ t).length ≤ 3 := by
      try simp only [List.length_append]
      have := few_len pm.few
      have := few_len ps.few
      have := few_len pt.few
      omega
    omega
  refine ⟨_, idx0_of hl, ?_⟩
  clear hl
  rcases pm with ⟨rfl, rfl⟩ | ⟨hx, rfl⟩
  rotate_left
  · exact k10_mill hs hx
  rcases ps with ⟨rfl, rfl⟩ | ⟨hx, rfl⟩
  rotate_left
  · exact k10_state hs hx
  rcases pt with ⟨rfl, rfl⟩ | ⟨hx, rfl⟩
  rotate_left
  · exact k10_trim hs hx
  exact k10_fine hs
theorem L11 {mill state day : D} {m s d h : List D} (hs : sameDs h h = true) (pm : IsP fineD badM "mill" mill m) (ps : IsP calmD badS "state" state s) (pd : IsP goodD badD "day" day d) : ∃ x, idx0 (.lst (m ++ s ++ d)) = some x ∧ lc lk11 [mill, state, day] x h := by
  have hl : (m ++ s ++ d).length < 100 := by
    have q : (m ++ s ++ d).length ≤ 3 := by
      try simp only [List.length_append]
      have := few_len pm.few
      have := few_len ps.few
      have := few_len pd.few
      omega
    omega
  refine ⟨_, idx0_of hl, ?_⟩
  clear hl
  rcases pm with ⟨rfl, rfl⟩ | ⟨hx, rfl⟩
  rotate_left
  · exact k11_mill hs hx
  rcases ps with ⟨rfl, rfl⟩ | ⟨hx, rfl⟩
  rotate_left
  · exact k11_state hs hx
  rcases pd with ⟨rfl, rfl⟩ | ⟨hx, rfl⟩
  rotate_left
  · exact k11_day hs hx
  exact k11_fine hs
theorem L12 {mill state day : D} {m s d h : List D} (hs : sameDs h h = true) (pm : IsP fineD badM "mill" mill m) (ps : IsP calmD badS "state" state s) (pd : IsP goodD badD "day" day d) : ∃ x, idx0 (.lst (m ++ s ++ d)) = some x ∧ lc lk12 [mill, state, day] x h := by
  have hl : (m ++ s ++ d).length < 100 := by
    have q : (m ++ s ++ d).length ≤ 3 := by
      try simp only [List.length_append]
      have := few_len pm.few
      have := few_len ps.few
      have := few_len pd.few
      omega
    omega
  refine ⟨_, idx0_of hl, ?_⟩
  clear hl
  rcases pm with ⟨rfl, rfl⟩ | ⟨hx, rfl⟩
  rotate_left
  · exact k12_mill hs hx
  rcases ps with ⟨rfl, rfl⟩ | ⟨hx, rfl⟩
  rotate_left
  · exact k12_state hs hx
  rcases pd with ⟨rfl, rfl⟩ | ⟨hx, rfl⟩
  rotate_left
  · exact k12_day hs hx
  exact k12_fine hs
theorem L13 {mill state : D} {m s h : List D} (hs : sameDs h h = true) (pm : IsP fineD badM "mill" mill m) (ps : IsP calmD badS "state" state s) : ∃ x, idx0 (.lst (m ++ s)) = some x ∧ lc lk13 [mill, state] x h := by
  have hl : (m ++ s).length < 100 := by
    have q : (m ++ s).length ≤ 2 := by
      try simp only [List.length_append]
      have := few_len pm.few
      have := few_len ps.few
      omega
    omega
  refine ⟨_, idx0_of hl, ?_⟩
  clear hl
  rcases pm with ⟨rfl, rfl⟩ | ⟨hx, rfl⟩
  rotate_left
  · exact k13_mill hs hx
  rcases ps with ⟨rfl, rfl⟩ | ⟨hx, rfl⟩
  rotate_left
  · exact k13_state hs hx
  exact k13_fine hs
theorem L14 {mill state other : D} {m s o h : List D} (hs : sameDs h h = true) (pm : IsP fineD badM "mill" mill m) (ps : IsP calmD badS "state" state s) (po : IsP calmD badO "state" other o) : ∃ x, idx0 (.lst (m ++ s ++ o)) = some x ∧ lc lk14 [mill, state, other] x h := by
  have hl : (m ++ s ++ o).length < 100 := by
    have q : (m ++ s ++ o).length ≤ 3 := by
      try simp only [List.length_append]
      have := few_len pm.few
      have := few_len ps.few
      have := few_len po.few
      omega
    omega
  refine ⟨_, idx0_of hl, ?_⟩
  clear hl
  rcases pm with ⟨rfl, rfl⟩ | ⟨hx, rfl⟩
  rotate_left
  · exact k14_mill hs hx
  rcases ps with ⟨rfl, rfl⟩ | ⟨hx, rfl⟩
  rotate_left
  · exact k14_state hs hx
  rcases po with ⟨rfl, rfl⟩ | ⟨hx, rfl⟩
  rotate_left
  · exact k14_other hs hx
  exact k14_fine hs
theorem L15 {mill state other : D} {m s o h : List D} (hs : sameDs h h = true) (pm : IsP fineD badM "mill" mill m) (ps : IsP calmD badS "state" state s) (po : IsP calmD badO "state" other o) : ∃ x, idx0 (.lst (m ++ s ++ o)) = some x ∧ lc lk15 [mill, state, other] x h := by
  have hl : (m ++ s ++ o).length < 100 := by
    have q : (m ++ s ++ o).length ≤ 3 := by
      try simp only [List.length_append]
      have := few_len pm.few
      have := few_len ps.few
      have := few_len po.few
      omega
    omega
  refine ⟨_, idx0_of hl, ?_⟩
  clear hl
  rcases pm with ⟨rfl, rfl⟩ | ⟨hx, rfl⟩
  rotate_left
  · exact k15_mill hs hx
  rcases ps with ⟨rfl, rfl⟩ | ⟨hx, rfl⟩
  rotate_left
  · exact k15_state hs hx
  rcases po with ⟨rfl, rfl⟩ | ⟨hx, rfl⟩
  rotate_left
  · exact k15_other hs hx
  exact k15_fine hs
theorem L16 {mill state ticks : D} {m s k h : List D} (hs : sameDs h h = true) (pm : IsP fineD badM "mill" mill m) (ps : IsP calmD badS "state" state s) (pk : IsP (.int 3) badK "ticks" ticks k) : ∃ x, idx0 (.lst (m ++ s ++ k)) = some x ∧ lc lk16 [mill, state, ticks] x h := by
  have hl : (m ++ s ++ k).length < 100 := by
    have q : (m ++ s ++ k).length ≤ 3 := by
      try simp only [List.length_append]
      have := few_len pm.few
      have := few_len ps.few
      have := few_len pk.few
      omega
    omega
  refine ⟨_, idx0_of hl, ?_⟩
  clear hl
  rcases pm with ⟨rfl, rfl⟩ | ⟨hx, rfl⟩
  rotate_left
  · exact k16_mill hs hx
  rcases ps with ⟨rfl, rfl⟩ | ⟨hx, rfl⟩
  rotate_left
  · exact k16_state hs hx
  rcases pk with ⟨rfl, rfl⟩ | ⟨hx, rfl⟩
  rotate_left
  · exact k16_ticks hs hx
  exact k16_fine hs
theorem L17 {mill state ticks : D} {m s k h : List D} (hs : sameDs h h = true) (pm : IsP fineD badM "mill" mill m) (ps : IsP calmD badS "state" state s) (pk : IsP (.int 3) badK "ticks" ticks k) : ∃ x, idx0 (.lst (m ++ s ++ k)) = some x ∧ lc lk17 [mill, state, ticks] x h := by
  have hl : (m ++ s ++ k).length < 100 := by
    have q : (m ++ s ++ k).length ≤ 3 := by
      try simp only [List.length_append]
      have := few_len pm.few
      have := few_len ps.few
      have := few_len pk.few
      omega
    omega
  refine ⟨_, idx0_of hl, ?_⟩
  clear hl
  rcases pm with ⟨rfl, rfl⟩ | ⟨hx, rfl⟩
  rotate_left
  · exact k17_mill hs hx
  rcases ps with ⟨rfl, rfl⟩ | ⟨hx, rfl⟩
  rotate_left
  · exact k17_state hs hx
  rcases pk with ⟨rfl, rfl⟩ | ⟨hx, rfl⟩
  rotate_left
  · exact k17_ticks hs hx
  exact k17_fine hs
theorem looks_ok {j : Nat} {y : Sl} {mill state other trim wind day ticks : D} {m s o t w d k h : List D} (hs : sameDs h h = true) (pm : IsP fineD badM "mill" mill m) (ps : IsP calmD badS "state" state s) (po : IsP calmD badO "state" other o) (pt : IsP trimD badT "trim" trim t) (pw : IsP (.int 1) badW "wind" wind w) (pd : IsP goodD badD "day" day d) (pk : IsP (.int 3) badK "ticks" ticks k) :
    chkLk 11 (runs gv ar (Ψ 10) isrT) 1 (lkBare gv ar (Ψ 10) (rtD.b :: rtD.bs)) [.lst (m), .lst (m), .lst (m), .lst (m ++ t), .lst (m ++ w), .lst (m ++ t), .lst (m ++ t), .lst (m ++ s ++ t ++ w), .lst (m ++ s ++ t ++ w), .lst (m ++ s ++ t ++ w), .lst (m ++ s ++ t), .lst (m ++ s ++ d), .lst (m ++ s ++ d), .lst (m ++ s), .lst (m ++ s ++ o), .lst (m ++ s ++ o), .lst (m ++ s ++ k), .lst (m ++ s ++ k)] ⟨sC j y mill state other trim wind day ticks m s o t w d k, h⟩ = true := by
  obtain ⟨x0, a0, b0⟩ := L0 hs pm
  obtain ⟨x1, a1, b1⟩ := L1 hs pm
  obtain ⟨x2, a2, b2⟩ := L2 hs pm
  obtain ⟨x3, a3, b3⟩ := L3 hs pm pt
  obtain ⟨x4, a4, b4⟩ := L4 hs pm pw
  obtain ⟨x5, a5, b5⟩ := L5 hs pm pt
  obtain ⟨x6, a6, b6⟩ := L6 hs pm pt
  obtain ⟨x7, a7, b7⟩ := L7 hs pm ps pt pw
  obtain ⟨x8, a8, b8⟩ := L8 hs pm ps pt pw
  obtain ⟨x9, a9, b9⟩ := L9 hs pm ps pt pw
  obtain ⟨x10, a10, b10⟩ := L10 hs pm ps pt
  obtain ⟨x11, a11, b11⟩ := L11 hs pm ps pd
  obtain ⟨x12, a12, b12⟩ := L12 hs pm ps pd
  obtain ⟨x13, a13, b13⟩ := L13 hs pm ps
  obtain ⟨x14, a14, b14⟩ := L14 hs pm ps po
  obtain ⟨x15, a15, b15⟩ := L15 hs pm ps po
  obtain ⟨x16, a16, b16⟩ := L16 hs pm ps pk
  obtain ⟨x17, a17, b17⟩ := L17 hs pm ps pk
  exact (chk_cons rfl a0 b0 (chk_cons rfl a1 b1 (chk_cons rfl a2 b2 (chk_cons rfl a3 b3 (chk_cons rfl a4 b4 (chk_cons rfl a5 b5 (chk_cons rfl a6 b6 (chk_cons rfl a7 b7 (chk_cons rfl a8 b8 (chk_cons rfl a9 b9 (chk_cons rfl a10 b10 (chk_cons rfl a11 b11 (chk_cons rfl a12 b12 (chk_cons rfl a13 b13 (chk_cons rfl a14 b14 (chk_cons rfl a15 b15 (chk_cons rfl a16 b16 (chk_cons rfl a17 b17 rfl))))))))))))))))))
end K86
end Vi
/-! text Ld12 -/
set_option Elab.async false
set_option linter.all false
set_option maxRecDepth 100000
set_option maxHeartbeats 4000000
namespace Vi
open PySem PySem.Spec PyProof.Rows L2
namespace K86
theorem Good.same {h : List D} {j c : Nat} (g : Good h j c) : sameDs h h = true := let ⟨_, _, _, _, _, _, _, _, z⟩ := g; z
theorem sem_iR (k : Nat) : Ψ (k + 1) iR = cfOf 27 (rtM gv ar rtD (Ψ k)) := by
  show (match prog[iR]? with | some v => cfOf v.N.length (bodyM gv ar ext iR v.ast (Ψ k)) | none => fun _ _ => RC.fail) = _
  rw [show prog[iR]? = some v60 from rfl]
  unfold bodyM
  have : ext iR = some (rtM gv ar rtD) := if_pos rfl
  rw [this]
  rfl
theorem right_law {j c : Nat} {h : List D} (g : Good h j c) (hc : c < 900) : ∃ h', Ψ 11 iR [.ref j] h = .ok (.bl true) false h' ∧ Good h' j (c + 14) ∧ h'.length = h.length := by
  obtain ⟨y, mill, state, other, trim, wind, day, ticks, m, s, o, t, w, d, k, h', p1, p2, p3, p4, p5, p6, p7, g', l', e⟩ := pre_ok g hc
  refine ⟨h', ?_, g', l'⟩
  have e1 : rtM gv ar rtD (Ψ 10) ⟨.s (.ref j) :: List.replicate 26 .e, h⟩ = .rt (.v (.bl true)) (blank ⟨sC j y mill state other trim wind day ticks m s o t w d k, h'⟩) := by
    unfold rtM
    show mSeq (runs gv ar (Ψ 10) rtPre) _ _ = _
    have q : ∀ z : MS, mSeq (runs gv ar (Ψ 10) rtPre) z ⟨.s (.ref j) :: List.replicate 26 .e, h⟩ = z ⟨sB j y mill state other trim wind day ticks (.o (.lst m)) (.o (.lst s)) (.o (.lst o)) (.o (.lst t)) (.o (.lst w)) (.o (.lst d)) (.o (.lst k)), h'⟩ := fun z => by
      unfold mSeq
      rw [e]
    rw [q]
    unfold mLooks
    rw [if_pos (by show 24 < 27; decide), due0]
    dsimp only
    have q2 : dues (rtD.bs.map fun b => (ev4 gv ar (Ψ 10) b.due).v) ⟨(sC j y mill state other trim wind day ticks m s o t w d k).set rtD.jl .e, h'⟩ = _ := dues_ok (j := j) (y := y) (mill := mill) (state := state) (other := other) (trim := trim) (wind := wind) (day := day) (ticks := ticks) (h := h') p1.few p2.few p3.few p4.few p5.few p6.few p7.few
    rw [q2]
    dsimp only
    exact if_pos (looks_ok g'.same p1 p2 p3 p4 p5 p6 p7)
  rw [sem_iR]
  unfold cfOf
  have q3 : rtM gv ar rtD (Ψ 10) ⟨([.ref j] : List D).map Sl.s ++ List.replicate (27 - ([.ref j] : List D).length) .e, h⟩ = _ := e1
  rw [q3]
  rfl
end K86
end Vi
/-! text Ld13 -/
set_option Elab.async false
set_option linter.all false
set_option maxRecDepth 100000
set_option maxHeartbeats 4000000
namespace Vi
open PySem PySem.Spec PyProof.Rows L2
namespace K86
abbrev cellE : Ex := .ife (.cmp .lt (.var 1) (.bi .len (.cons (.var 0) .nil))) (.idx (.var 0) (.var 1)) (.bin .add (.bin .add (.bin .mod (.bi .int (.cons (.bi .sum (.cons (.sli (.var 0) .no (.c (.int 1))) .nil)) .nil)) (.c (.int 1000003))) (.bin .mul (.c (.int 3054)) (.var 1))) (.c (.int 6968)))
theorem ints_of : ∀ ns : List Int, intsOf (ns.map D.int) = some ns
  | [] => rfl
  | n :: ns => by
    show (intsOf (ns.map D.int)).map _ = _
    rw [ints_of ns]; rfl
theorem cell_ok {Φ : Nat → Cf} {ns : List Int} {p : Nat} {h : List D} (hp : p < 3) : ∃ c : Int, (ev4 gv ar Φ cellE).v ⟨[.s (.lst (ns.map .int)), .s (.int p), .e, .e, .e], h⟩ = .ok (.v (.int c)) ⟨[.s (.lst (ns.map .int)), .s (.int p), .e, .e, .e], h⟩ := by
  by_cases hl : p < ns.length
  · refine ⟨ns[p], ?_⟩
    have hl2 : (p : Int) < ns.length := by omega
    simp [ev4, evs4, rgV, rgT, mIfe, mTestB, mCmp, Vi.bind, mVar, mC, ret, rdh, rd, deref, cmp, cmpI, mBi, mOCons, mONil, rdhs, Bi.k, kLen, mIdx, idxD, opt, L2.atI, L2.ixN, hl, hl2]
  · have m1 : mulD (.int 3054) (.int p) = ret (.v (.int (3054 * p))) := mul_ok 20 20 (by decide) (by omega) (by decide)
    have hl2 : ¬ (p : Int) < ns.length := by omega
    refine ⟨(ns.take 1).sum.fmod 1000003 + 3054 * p + 6968, ?_⟩
    have hs : ∀ S : St, kSum [.lst (cut (ns.map .int) none (some 1))] S = .ok (.v (.int (ns.take 1).sum)) S := fun S => by
      have e : cut (ns.map D.int) none (some 1) = (ns.take 1).map D.int := by
        cases ns with
        | nil => rfl
        | cons n ns => rfl
      rw [e]
      unfold kSum
      dsimp only
      rw [ints_of]; rfl
    simp [ev4, evs4, rgV, rgT, mIfe, mTestB, mCmp, Vi.bind, mVar, mC, ret, rdh, rd, deref, cmp, cmpI, mBi, mOCons, mONil, rdhs, Bi.k, kLen, hl, hl2, op2, addD, modD, m1, mSli, mPart, mNoPart, partD, slice, hs, kInt]
theorem seq_go {Φ : Nat → Cf} {s : Sm} {r : Sms} {S S' : St} (e : run gv ar Φ s S = .nx S') : runs gv ar Φ (.cons s r) S = runs gv ar Φ r S' := by
  show mSeq (run gv ar Φ s) (runs gv ar Φ r) S = _
  unfold mSeq
  rw [e]
theorem pot_ok {k : Nat} {ns : List Int} {p : Nat} {h : List D} (hp : p < 3) : ∃ a b : Int, Ψ (k + 1) 54 [.lst (ns.map .int), .int p] h = .ok (.lst [.int a, .int b, .int 0]) true h ∧ 0 ≤ a ∧ 0 ≤ b ∧ b < 2 ^ 62 := by
  obtain ⟨c, e⟩ := cell_ok (Φ := Ψ k) (ns := ns) (h := h) hp
  rw [sem_at (v := v54) rfl (by decide)]
  obtain ⟨P, hP⟩ : ∃ P : Int, P = 10 ^ 60 := ⟨_, rfl⟩
  obtain ⟨Q, hQ⟩ : ∃ Q : Int, Q = (10 ^ 60) ^ 5 := ⟨_, rfl⟩
  obtain ⟨Z, hZ⟩ : ∃ Z : Int, Z = 10 ^ 18 := ⟨_, rfl⟩
  have p1 : powD (.int 10) (.int 60) = ret (.v (.int P)) := by rw [hP]; exact pow_ok 4 60 (by decide) (by decide)
  have p2 : powD (.int P) (.int 5) = ret (.v (.int Q)) := by rw [hP, hQ]; exact pow_ok 200 5 (by decide) (by decide)
  have p3 : powD (.int 10) (.int 18) = ret (.v (.int Z)) := by rw [hZ]; exact pow_ok 4 18 (by decide) (by decide)
  have e1 : run gv ar (Ψ k) (.set 2 cellE) ⟨[.s (.lst (ns.map .int)), .s (.int p), .e, .e, .e], h⟩ = .nx ⟨[.s (.lst (ns.map .int)), .s (.int p), .s (.int c), .e, .e], h⟩ := by
    show mThen (Vi.bind _ norm) (put1 2) _ = _
    unfold mThen
    rw [bind_ok e]; rfl
  have sA : ∃ A : Int, (if c < 0 then -c else c) = A ∧ 0 ≤ A := ⟨_, rfl, by split <;> omega⟩
  obtain ⟨A, eA, hA⟩ := sA
  have kA : ∀ S : St, kAbs [.int c] S = .ok (.v (.int A)) S := fun S => by
    unfold kAbs
    dsimp only
    rw [eA]; rfl
  have b1 := Int.fmod_nonneg_of_pos A (b := (10 ^ 60) ^ 5) (by decide)
  have b2 := Int.fmod_lt_of_pos A (b := (10 ^ 60) ^ 5) (by decide)
  have z0 : ((10 : Int) ^ 60) ^ 5 ≠ 0 := by decide
  have c1 := Int.fmod_nonneg_of_pos c (b := 2305843009213693951) (by decide)
  have c2 := Int.fmod_lt_of_pos c (b := 2305843009213693951) (by decide)
  generalize eo : A.fmod ((10 ^ 60) ^ 5) = ow at b1 b2
  generalize es : c.fmod 2305843009213693951 = sm at c1 c2
  have z1 : modD (.int A) (.int Q) = ret (.v (.int ow)) := by
    rw [hQ]
    unfold modD
    dsimp only
    rw [if_pos z0, eo]
  have z2 : modD (.int c) (.int 2305843009213693951) = ret (.v (.int sm)) := by
    unfold modD
    dsimp only
    rw [if_pos (by decide), es]
  have owb : ow.natAbs < 2 ^ 1000 := by
    have : ((10 : Int) ^ 60) ^ 5 < 2 ^ 1000 := by decide
    have e2 : ((2 : Int) ^ 1000) = ((2 ^ 1000 : Nat) : Int) := by norm_cast
    omega
  have m0 : mulD (.int ow) (.int 0) = ret (.v (.int (ow * 0))) := mul_ok 1000 4 owb (by decide) (by decide)
  have m1 : mulD (.int ow) (.int 1) = ret (.v (.int (ow * 1))) := mul_ok 1000 4 owb (by decide) (by decide)
  have m2 : mulD (.int sm) (.int 88819) = ret (.v (.int (sm * 88819))) := mul_ok 62 20 (by omega) (by decide) (by decide)
  have m3 : mulD (.int 12717) (.int p) = ret (.v (.int (12717 * p))) := mul_ok 20 20 (by decide) (by omega) (by decide)
  have m4 : mulD (.int (12717 * p)) (.int p) = ret (.v (.int (12717 * p * p))) := mul_ok 40 20 (by omega) (by omega) (by decide)
  have l3 : 3 ≤ line := by decide
  have f1 : ∃ b : Int, modD (.int (sm * 88819 + 12717 * p * p + 2454)) (.int 2305843009213693921) = ret (.v (.int b)) ∧ 0 ≤ b ∧ b < 2 ^ 62 := by
    refine ⟨_, by unfold modD; dsimp only; rw [if_pos (by decide)], Int.fmod_nonneg_of_pos _ (by decide), ?_⟩
    have := Int.fmod_lt_of_pos (sm * 88819 + 12717 * p * p + 2454) (b := 2305843009213693921) (by decide)
    omega
  obtain ⟨b, f1, fb, fb2⟩ := f1
  have tail : ∀ q : Int, (q = 0 ∨ q = 1) → mulD (.int ow) (.int q) = ret (.v (.int (ow * q))) → ((if Z ≤ A then 1 else 0 : Int) = q) → cfOf 5 (runs gv ar (Ψ k) v54.ast) [.lst (ns.map .int), .int p] h = .ok (.lst [.int (ow * q), .int b, .int 0]) true h := fun q hq mq kq => by
    have e2 : runs gv ar (Ψ k) v54.ast ⟨[.s (.lst (ns.map .int)), .s (.int p), .e, .e, .e], h⟩ = .rt (.w (.lst [.int (ow * q), .int b, .int 0])) ⟨[.s (.lst (ns.map .int)), .s (.int p), .s (.int c), .s (.int (ow * q)), .s (.int sm)], h⟩ := by
      refine (seq_go e1).trans ?_
      simp [runs, run, ev4, evs4, rgV, rgT, mSeq, mThen, mCmp, Vi.bind, mVar, mC, ret, rdh, rd, deref, cmp, cmpI, mBi, mOCons, mONil, rdhs, Bi.k, kA, kq, op2, p1, p2, p3, z1, z2, mq, m2, m3, m4, addD, f1, mSet, norm, put1, kInt, mLst, mCons, mNil, esc, l3, mRet]
    unfold cfOf
    show (match runs gv ar (Ψ k) v54.ast ⟨[.s (.lst (ns.map .int)), .s (.int p), .e, .e, .e], h⟩ with | .nx s => _ | .rt (.v d) s => _ | .rt (.w d) s => _ | .rt (.at i) s => _ | .exc c d s => _ | .fail => _) = _
    rw [e2]
  by_cases hA2 : Z ≤ A
  · exact ⟨_, b, tail 1 (.inr rfl) m1 (if_pos hA2), by omega, fb, fb2⟩
  · exact ⟨_, b, tail 0 (.inl rfl) m0 (if_neg hA2), by omega, fb, fb2⟩
end K86
end Vi
/-! text Ld14 -/
set_option Elab.async false
set_option linter.all false
set_option maxRecDepth 100000
set_option maxHeartbeats 4000000
namespace Vi
open PySem PySem.Spec PyProof.Rows L2
namespace K86
theorem clamp (L : Int) (h0 : 0 ≤ L) : ∃ n : Nat, (n = 1 ∨ n = 2 ∨ n = 3) ∧ (if 1 < (if L < 3 then L else 3) then (if L < 3 then L else 3) else 1) = (n : Int) := by
  by_cases h3 : L < 3
  · rw [if_pos h3]
    by_cases h1 : 1 < L
    · rw [if_pos h1]; exact ⟨2, .inr (.inl rfl), by omega⟩
    · rw [if_neg h1]; exact ⟨1, .inl rfl, rfl⟩
  · rw [if_neg h3, if_pos (by omega)]; exact ⟨3, .inr (.inr rfl), rfl⟩
theorem lrg_ok {n : Nat} (hn : n = 1 ∨ n = 2 ∨ n = 3) (S : St) : lrg 0 n S = .ok (.w (.lst ((List.range n).map fun (i : Nat) => D.int i))) S := by
  rcases hn with rfl | rfl | rfl <;> kernel_rfl
theorem cells_ok {k : Nat} {ns : List Int} {h : List D} : ∃ n : Nat, (n = 1 ∨ n = 2 ∨ n = 3) ∧ Ψ (k + 1) 57 [.lst (ns.map .int), .int 3] h = .ok (.lst ((List.range n).map fun (i : Nat) => D.int i)) true h := by
  rw [sem_at (v := v57) rfl (by decide)]
  obtain ⟨n, hn, e⟩ := clamp ns.length (Int.natCast_nonneg _)
  refine ⟨n, hn, ?_⟩
  generalize hS : (⟨[.s (.lst (ns.map .int)), .s (.int 3)], h⟩ : St) = S
  have l1 : mBi (Bi.k (xcN gv) .len) (mOCons (mVar 0) mONil) S = .ok (.v (.int ns.length)) S := by
    subst hS
    simp [mBi, mOCons, mONil, Vi.bind, mVar, ret, rdhs, rdh, rd, deref, Bi.k, kLen]
  have l2 : mBi (Bi.k (xcN gv) .min) (mOCons (mVar 1) (mOCons (mBi (Bi.k (xcN gv) .len) (mOCons (mVar 0) mONil)) mONil)) S = .ok (.v (.int (if (ns.length : Int) < 3 then (ns.length : Int) else 3))) S := by
    generalize mBi (Bi.k (xcN gv) .len) (mOCons (mVar 0) mONil) = m at l1
    have v1 : mVar 1 S = .ok (.v (.int 3)) S := by subst hS; rfl
    unfold mBi mOCons
    rw [bind_ok (show Vi.bind (mVar 1) (fun o => Vi.bind (Vi.bind m fun o => Vi.bind mONil fun os => ret (o :: os)) fun os => ret (o :: os)) S = .ok [.v (.int 3), .v (.int ns.length)] S by
      rw [bind_ok v1, bind_ok (show Vi.bind m (fun o => Vi.bind mONil fun os => ret (o :: os)) S = .ok [.v (.int ns.length)] S by rw [bind_ok l1]; rfl)]; rfl)]
    rfl
  have l3 : mBi (Bi.k (xcN gv) .max) (mOCons (mC (.int 1)) (mOCons (mBi (Bi.k (xcN gv) .min) (mOCons (mVar 1) (mOCons (mBi (Bi.k (xcN gv) .len) (mOCons (mVar 0) mONil)) mONil))) mONil)) S = .ok (.v (.int n)) S := by
    generalize mBi (Bi.k (xcN gv) .min) _ = m at l2
    rw [← e]
    unfold mBi mOCons
    rw [bind_ok (show Vi.bind (mC (.int 1)) (fun o => Vi.bind (Vi.bind m fun o => Vi.bind mONil fun os => ret (o :: os)) fun os => ret (o :: os)) S = .ok [.v (.int 1), .v (.int (if (ns.length : Int) < 3 then (ns.length : Int) else 3))] S by
      rw [bind_ok (show mC (.int 1) S = .ok (.v (.int 1)) S from rfl), bind_ok (show Vi.bind m (fun o => Vi.bind mONil fun os => ret (o :: os)) S = .ok [.v (.int (if (ns.length : Int) < 3 then (ns.length : Int) else 3))] S by rw [bind_ok l2]; rfl)]; rfl)]
    rfl
  have l4 : runs gv ar (Ψ k) v57.ast S = .rt (.w (.lst ((List.range n).map fun (i : Nat) => D.int i))) S := by
    show mSeq (mRet (mLrg1 (mBi (Bi.k (xcN gv) .max) (mOCons (mC (.int 1)) (mOCons (mBi (Bi.k (xcN gv) .min) (mOCons (mVar 1) (mOCons (mBi (Bi.k (xcN gv) .len) (mOCons (mVar 0) mONil)) mONil))) mONil))))) mSkip S = _
    generalize mBi (Bi.k (xcN gv) .max) _ = m at l3 ⊢
    have l5 : mLrg1 m S = .ok (.w (.lst ((List.range n).map fun (i : Nat) => D.int i))) S := by
      unfold mLrg1
      rw [bind_ok l3, bind_ok (show rd (O.v (.int n)) S = .ok (.int n) S from rfl), bind_ok (show intD (.int n) S = .ok (n : Int) S from rfl)]
      exact lrg_ok hn S
    unfold mSeq mRet mThen
    rw [l5]
  subst hS
  show (match runs gv ar (Ψ k) v57.ast ⟨[.s (.lst (ns.map .int)), .s (.int 3)], h⟩ with | .nx s => _ | .rt (.v d) s => _ | .rt (.w d) s => _ | .rt (.at i) s => _ | .exc c d s => _ | .fail => _) = _
  rw [l4]
end K86
end Vi
/-! text Ld15 -/
set_option Elab.async false
set_option linter.all false
set_option maxRecDepth 100000
set_option maxHeartbeats 4000000
/-! Ld, part 15: law. -/
namespace Vi
open PySem PySem.Spec PyProof.Rows L2
namespace K86
theorem call_ok {Φ : Nat → Cf} {f : Nat} {es : Exs} {S S1 : St} {ds : List D} {d : D} {own : Bool} {h' : List D} (q : (evs4 gv ar Φ es).vs S = .ok ds S1) (hn : ds.length = ar f) (e : Φ f ds S1.h = .ok d own h') : (ev4 gv ar Φ (.call f es)).v S = .ok (out d own) { S1 with h := h' } := by
  show Vi.bind (evs4 gv ar Φ es).vs (fun ds => if ds.length = ar f then mCallC (Φ f) ds else fail) S = _
  rw [bind_ok q, if_pos hn]
  unfold mCallC
  rw [e]
abbrev teR (k : Nat) : M D := Vi.bind (ev4 gv ar (Ψ k) (.call 60 (.cons (.var 2) .nil))).v esc
theorem te_ok {s0 y1 : Sl} {x : D} {j c : Nat} {h : List D} (g : Good h j c) (hc : c < 900) :
    ∃ h', teR 11 ⟨[s0, y1, .s (.ref j), .s x], h⟩ = .ok (.bl true) ⟨[s0, y1, .s (.ref j), .s x], h'⟩ ∧ Good h' j (c + 14) ∧ h'.length = h.length := by
  obtain ⟨h', e, g', l'⟩ := right_law g hc
  refine ⟨h', ?_, g', l'⟩
  have q : mCons (mVar 2) mNil ⟨[s0, y1, .s (.ref j), .s x], h⟩ = .ok [.ref j] ⟨[s0, y1, .s (.ref j), .s x], h⟩ := rfl
  have e1 : (ev4 gv ar (Ψ 11) (.call 60 (.cons (.var 2) .nil))).v ⟨[s0, y1, .s (.ref j), .s x], h⟩ = .ok (.v (.bl true)) ⟨[s0, y1, .s (.ref j), .s x], h'⟩ := call_ok (Φ := Ψ 11) (f := 60) (es := .cons (.var 2) .nil) (own := false) (S1 := ⟨[s0, y1, .s (.ref j), .s x], h⟩) (ds := [.ref j]) rfl rfl e
  show Vi.bind (ev4 gv ar (Ψ 11) (.call 60 (.cons (.var 2) .nil))).v esc _ = _
  rw [bind_ok e1]
  rfl
theorem lap_go {s0 y1 : Sl} {j : Nat} : ∀ (n i : Nat) (acc : List D) (c : Nat) (h : List D), Good h j c → c + 14 * n < 900 → acc.length + n < 1000 →
    ∃ h', lcGo [3] (gNm 3) (ret true) (teR 11) ((List.range' i n).map fun (i : Nat) => D.int (0 + (i : Int) * 1)) acc ⟨[s0, y1, .s (.ref j), .e], h⟩ = .ok (acc ++ List.replicate n (.bl true)) ⟨[s0, y1, .s (.ref j), .e], h'⟩ ∧ Good h' j (c + 14 * n) ∧ h'.length = h.length
  | 0, i, acc, c, h, g, _, _ => ⟨h, by simp [lcGo, ret], g, rfl⟩
  | n + 1, i, acc, c, h, g, hc, ha => by
    obtain ⟨h1, e1, g1, l1⟩ := te_ok (s0 := s0) (y1 := y1) (x := D.int (0 + (i : Int) * 1)) g (by omega)
    obtain ⟨h2, e2, g2, l2⟩ := lap_go n (i + 1) (acc ++ [.bl true]) (c + 14) h1 g1 (by omega) (by simp; omega)
    refine ⟨h2, ?_, g2.mono (by omega), by omega⟩
    have q : lc1 [3] (gNm 3) (ret true) (teR 11) (D.int (0 + (i : Int) * 1)) ⟨[s0, y1, .s (.ref j), .e], h⟩ = .ok [.bl true] ⟨[s0, y1, .s (.ref j), .e], h1⟩ := by
      unfold lc1
      rw [bind_ok (show gNm 3 (D.int (0 + (i : Int) * 1)) ⟨[s0, y1, .s (.ref j), .e], h⟩ = .ok () ⟨[s0, y1, .s (.ref j), .s (D.int (0 + (i : Int) * 1))], h⟩ from rfl)]
      rw [bind_ok (show ret true _ = .ok true _ from rfl)]
      rw [bind_ok (show (if true = true then Vi.bind (teR 11) fun d => ret [d] else ret []) ⟨[s0, y1, .s (.ref j), .s (D.int (0 + (i : Int) * 1))], h⟩ = .ok [.bl true] ⟨[s0, y1, .s (.ref j), .s (D.int (0 + (i : Int) * 1))], h1⟩ by
        rw [if_pos rfl, bind_ok e1]; rfl)]
      rfl
    rw [show List.range' i (n + 1) = i :: List.range' (i + 1) n from rfl, List.map_cons]
    unfold lcGo
    rw [bind_ok q, if_pos (Nat.lt_of_lt_of_le (show acc.length < 1000 by omega) (by decide)), e2]
    rw [List.append_assoc]; rfl
abbrev loopB : Sms := .cons (.set 2 (.shr (.call 54 (.cons (.var 0) (.cons (.var 1) .nil))))) (.cons (.ifS (.not (.bi .all (.cons (.lc [3] (.nm 3) (.rng (.cons (.c (.int 6)) .nil)) .no (.call 60 (.cons (.var 2) .nil))) .nil))) (.cons (.ret (.c (.bl false))) .nil) .nil) .nil)
theorem six {s0 y1 : Sl} {z : Sl} {j c : Nat} {h : List D} (g : Good h j c) (hc : c < 100) :
    ∃ h', mLc [3] (Vi.bind (mCons (mC (.int 6)) mNil) fun xs => if xs.length = 1 then rngD xs else fail) (gNm 3) (ret true) (teR 11) ⟨[s0, y1, .s (.ref j), z], h⟩ = .ok (.w (.lst (List.replicate 6 (.bl true)))) ⟨[s0, y1, .s (.ref j), z], h'⟩ ∧ Good h' j (c + 84) ∧ h'.length = h.length := by
  obtain ⟨h', e, g', l'⟩ := lap_go (s0 := s0) (y1 := y1) 6 0 [] c h g (by omega) (by simp)
  refine ⟨h', ?_, g', l'⟩
  unfold mLc
  rw [bind_ok (show (Vi.bind (mCons (mC (.int 6)) mNil) fun xs => if xs.length = 1 then rngD xs else fail) ⟨[s0, y1, .s (.ref j), z], h⟩ = .ok ((List.range' 0 6).map fun (i : Nat) => D.int (0 + (i : Int) * 1)) ⟨[s0, y1, .s (.ref j), z], h⟩ from rfl)]
  show (match lcGo [3] (gNm 3) (ret true) (teR 11) _ [] ⟨[s0, y1, .s (.ref j), .e], h⟩ with | .ok ds s2 => R.ok (O.w (.lst ds)) (s2.back [3] _) | _ => .fail) = _
  rw [e]
  rfl
theorem body_ok {ns : List Int} {p : Nat} {y1 y2 y3 : Sl} {h : List D} (hp : p < 3) (hs : sameDs h h = true) :
    ∃ (j : Nat) (h' : List D), mThen (gNm 1 (.int p)) (fun _ => runs gv ar (Ψ 11) loopB) ⟨[.s (.lst (ns.map .int)), y1, y2, y3], h⟩ = .nx ⟨[.s (.lst (ns.map .int)), .s (.int p), .s (.ref j), y3], h'⟩ ∧ sameDs h' h' = true := by
  obtain ⟨a, b, e, ha, hb, hb2⟩ := pot_ok (k := 10) (ns := ns) (h := h) hp
  have g0 : Good (h ++ [.lst [.int a, .int b, .int 0]]) h.length 0 := ⟨a, b, 0, by simp, ha, ⟨hb, hb2⟩, by omega, by omega, by
    have : ∀ l : List D, sameDs l l = true → sameDs (l ++ [.lst [.int a, .int b, .int 0]]) (l ++ [.lst [.int a, .int b, .int 0]]) = true := by
      intro l
      induction l with
      | nil => intro _; show (sameD _ _ && true) = true; rw [same_pot]; rfl
      | cons d l ih =>
        intro z
        simp only [sameDs, Bool.and_eq_true] at z
        show (sameD d d && sameDs (l ++ _) (l ++ _)) = true
        rw [z.1, ih z.2]; rfl
    exact this h hs⟩
  obtain ⟨h', e6, g6, l6⟩ := six (s0 := .s (.lst (ns.map .int))) (y1 := .s (.int p)) (z := y3) g0 (by omega)
  refine ⟨h.length, h', ?_, g6.same⟩
  have q1 : mCons (mVar 0) (mCons (mVar 1) mNil) ⟨[.s (.lst (ns.map .int)), .s (.int p), y2, y3], h⟩ = .ok [.lst (ns.map .int), .int p] ⟨[.s (.lst (ns.map .int)), .s (.int p), y2, y3], h⟩ := rfl
  have q2 : (ev4 gv ar (Ψ 11) (.call 54 (.cons (.var 0) (.cons (.var 1) .nil)))).v ⟨[.s (.lst (ns.map .int)), .s (.int p), y2, y3], h⟩ = .ok (.w (.lst [.int a, .int b, .int 0])) ⟨[.s (.lst (ns.map .int)), .s (.int p), y2, y3], h⟩ := call_ok (Φ := Ψ 11) (f := 54) (es := .cons (.var 0) (.cons (.var 1) .nil)) (own := true) (S1 := ⟨[.s (.lst (ns.map .int)), .s (.int p), y2, y3], h⟩) (ds := [.lst (ns.map .int), .int p]) rfl rfl e
  have q3 : run gv ar (Ψ 11) (.set 2 (.shr (.call 54 (.cons (.var 0) (.cons (.var 1) .nil))))) ⟨[.s (.lst (ns.map .int)), .s (.int p), y2, y3], h⟩ = .nx ⟨[.s (.lst (ns.map .int)), .s (.int p), .s (.ref h.length), y3], h ++ [.lst [.int a, .int b, .int 0]]⟩ := by
    show mThen (Vi.bind (Vi.bind (ev4 gv ar (Ψ 11) (.call 54 (.cons (.var 0) (.cons (.var 1) .nil)))).v shrO) norm) (put1 2) _ = _
    unfold mThen
    rw [bind_ok (show Vi.bind (ev4 gv ar (Ψ 11) (.call 54 (.cons (.var 0) (.cons (.var 1) .nil)))).v shrO ⟨[.s (.lst (ns.map .int)), .s (.int p), y2, y3], h⟩ = .ok (.v (.ref h.length)) ⟨[.s (.lst (ns.map .int)), .s (.int p), y2, y3], h ++ [.lst [.int a, .int b, .int 0]]⟩ by rw [bind_ok q2]; rfl)]
    rfl
  have q4 : (ev4 gv ar (Ψ 11) (.not (.bi .all (.cons (.lc [3] (.nm 3) (.rng (.cons (.c (.int 6)) .nil)) .no (.call 60 (.cons (.var 2) .nil))) .nil)))).t ⟨[.s (.lst (ns.map .int)), .s (.int p), .s (.ref h.length), y3], h ++ [.lst [.int a, .int b, .int 0]]⟩ = .ok false ⟨[.s (.lst (ns.map .int)), .s (.int p), .s (.ref h.length), y3], h'⟩ := by
    show mNotT (mTest (mBi (Bi.k (xcN gv) .all) (mOCons (mLc [3] (Vi.bind (mCons (mC (.int 6)) mNil) fun xs => if xs.length = 1 then rngD xs else fail) (gNm 3) (ret true) (teR 11)) mONil))) _ = _
    generalize mLc [3] _ _ _ _ = m at e6 ⊢
    have q5 : mBi (Bi.k (xcN gv) .all) (mOCons m mONil) ⟨[.s (.lst (ns.map .int)), .s (.int p), .s (.ref h.length), y3], h ++ [.lst [.int a, .int b, .int 0]]⟩ = .ok (.v (.bl true)) ⟨[.s (.lst (ns.map .int)), .s (.int p), .s (.ref h.length), y3], h'⟩ := by
      unfold mBi mOCons
      rw [bind_ok (show Vi.bind m (fun o => Vi.bind mONil fun os => ret (o :: os)) ⟨[.s (.lst (ns.map .int)), .s (.int p), .s (.ref h.length), y3], h ++ [.lst [.int a, .int b, .int 0]]⟩ = .ok [.w (.lst (List.replicate 6 (.bl true)))] ⟨[.s (.lst (ns.map .int)), .s (.int p), .s (.ref h.length), y3], h'⟩ by rw [bind_ok e6]; rfl)]
      rfl
    unfold mNotT mTest
    rw [bind_ok (show Vi.bind (mBi (Bi.k (xcN gv) .all) (mOCons m mONil)) (fun o => Vi.bind (rdh o) fun d => opt (truth d)) ⟨[.s (.lst (ns.map .int)), .s (.int p), .s (.ref h.length), y3], h ++ [.lst [.int a, .int b, .int 0]]⟩ = .ok true ⟨[.s (.lst (ns.map .int)), .s (.int p), .s (.ref h.length), y3], h'⟩ by rw [bind_ok q5]; rfl)]
    rfl
  show mThen (gNm 1 (.int p)) (fun _ => runs gv ar (Ψ 11) loopB) ⟨[.s (.lst (ns.map .int)), y1, y2, y3], h⟩ = _
  show runs gv ar (Ψ 11) loopB ⟨[.s (.lst (ns.map .int)), .s (.int p), y2, y3], h⟩ = _
  refine (seq_go q3).trans ?_
  show mSeq (mIfS _ (runs gv ar (Ψ 11) _) mSkip) mSkip _ = _
  unfold mSeq mIfS mThen
  rw [q4]
  rfl
theorem for_ok {ns : List Int} : ∀ (n p : Nat) (y1 y2 y3 : Sl) (h : List D), p + n ≤ 3 → sameDs h h = true →
    ∃ (z1 z2 z3 : Sl) (h' : List D), forGo (gNm 1) (runs gv ar (Ψ 11) loopB) ((List.range' p n).map fun (i : Nat) => D.int i) ⟨[.s (.lst (ns.map .int)), y1, y2, y3], h⟩ = .nx ⟨[.s (.lst (ns.map .int)), z1, z2, z3], h'⟩
  | 0, p, y1, y2, y3, h, _, _ => ⟨y1, y2, y3, h, rfl⟩
  | n + 1, p, y1, y2, y3, h, hp, hs => by
    obtain ⟨j, h1, e1, s1⟩ := body_ok (ns := ns) (p := p) (y1 := y1) (y2 := y2) (y3 := y3) (h := h) (by omega) hs
    obtain ⟨z1, z2, z3, h2, e2⟩ := for_ok (ns := ns) n (p + 1) (.s (.int p)) (.s (.ref j)) y3 h1 (by omega) s1
    refine ⟨z1, z2, z3, h2, ?_⟩
    show mSeq (mThen (gNm 1 (.int p)) fun _ => runs gv ar (Ψ 11) loopB) (forGo (gNm 1) (runs gv ar (Ψ 11) loopB) ((List.range' (p + 1) n).map fun (i : Nat) => D.int i)) _ = _
    unfold mSeq
    rw [e1]
    exact e2
theorem law_holds (ns : List Int) : ∃ h', Ψ 12 iL [.lst (ns.map .int)] [] = .ok (.bl true) false h' := by
  rw [show iL = 61 from rfl, sem_at (v := v61) rfl (by decide)]
  obtain ⟨n, hn, e⟩ := cells_ok (k := 10) (ns := ns) (h := [])
  obtain ⟨z1, z2, z3, h', e2⟩ := for_ok (ns := ns) n 0 .e .e .e [] (by omega) rfl
  refine ⟨h', ?_⟩
  have q1 : (ev4 gv ar (Ψ 11) (.call 57 (.cons (.var 0) (.cons (.c (.int 3)) .nil)))).v ⟨[.s (.lst (ns.map .int)), .e, .e, .e], []⟩ = .ok (.w (.lst ((List.range n).map fun (i : Nat) => D.int i))) ⟨[.s (.lst (ns.map .int)), .e, .e, .e], []⟩ :=
    call_ok (Φ := Ψ 11) (f := 57) (es := .cons (.var 0) (.cons (.c (.int 3)) .nil)) (own := true) (S1 := ⟨[.s (.lst (ns.map .int)), .e, .e, .e], []⟩) (ds := [.lst (ns.map .int), .int 3]) rfl rfl e
  have q2 : (ev4 gv ar (Ψ 11) (.call 57 (.cons (.var 0) (.cons (.c (.int 3)) .nil)))).i ⟨[.s (.lst (ns.map .int)), .e, .e, .e], []⟩ = .ok ((List.range n).map fun (i : Nat) => D.int i) ⟨[.s (.lst (ns.map .int)), .e, .e, .e], []⟩ := by
    show Vi.bind (Vi.bind (ev4 gv ar (Ψ 11) (.call 57 (.cons (.var 0) (.cons (.c (.int 3)) .nil)))).v esc) itemsOf _ = _
    rw [bind_ok (show Vi.bind (ev4 gv ar (Ψ 11) (.call 57 (.cons (.var 0) (.cons (.c (.int 3)) .nil)))).v esc ⟨[.s (.lst (ns.map .int)), .e, .e, .e], []⟩ = .ok (.lst ((List.range n).map fun (i : Nat) => D.int i)) ⟨[.s (.lst (ns.map .int)), .e, .e, .e], []⟩ by rw [bind_ok q1]; rfl)]
    rfl
  have q3 : runs gv ar (Ψ 11) v61.ast ⟨[.s (.lst (ns.map .int)), .e, .e, .e], []⟩ = .rt (.v (.bl true)) ⟨[.s (.lst (ns.map .int)), z1, z2, z3], h'⟩ := by
    refine (seq_go (S' := ⟨[.s (.lst (ns.map .int)), z1, z2, z3], h'⟩) ?_).trans rfl
    show mThen (ev4 gv ar (Ψ 11) (.call 57 (.cons (.var 0) (.cons (.c (.int 3)) .nil)))).i (forGo (gNm 1) (runs gv ar (Ψ 11) loopB)) _ = _
    unfold mThen
    rw [q2]
    rw [List.range_eq_range']
    exact e2
  show (match runs gv ar (Ψ 11) v61.ast ⟨[.s (.lst (ns.map .int)), .e, .e, .e], []⟩ with | .nx s => _ | .rt (.v d) s => _ | .rt (.w d) s => _ | .rt (.at i) s => _ | .exc c d s => _ | .fail => _) = _
  rw [q3]
end K86
end Vi
/-! text Bk86 -/
set_option Elab.async false
set_option linter.all false
set_option maxRecDepth 100000
set_option maxHeartbeats 2000000
namespace Vi
open PySem PySem.Spec PyProof.Rows L2
namespace K86
theorem bo0 {d : He.DefD} {v : DefV} (h : bindB v.ps d = true) (e : v.ps = [("value" : Str)]) : BindOk d v := by
  obtain ⟨args, ea, em⟩ := bindB_ok h
  intro kV doc pm an cdv ct us hl
  rw [e] at em hl ⊢
  rw [ea]
  have hn : args.length = 1 := by have := congrArg List.length em; simpa using this
  match args, em, hn, us, hl with
  | [⟨a0, n0, p0⟩], em, _, [u0], _ =>
    simp only [List.map_cons, List.map_nil, List.cons.injEq, and_true] at em
    obtain rfl := em
    rfl
theorem bo1 {d : He.DefD} {v : DefV} (h : bindB v.ps d = true) (e : v.ps = [("value" : Str), ("low" : Str), ("high" : Str)]) : BindOk d v := by
  obtain ⟨args, ea, em⟩ := bindB_ok h
  intro kV doc pm an cdv ct us hl
  rw [e] at em hl ⊢
  rw [ea]
  have hn : args.length = 3 := by have := congrArg List.length em; simpa using this
  match args, em, hn, us, hl with
  | [⟨a0, n0, p0⟩, ⟨a1, n1, p1⟩, ⟨a2, n2, p2⟩], em, _, [u0, u1, u2], _ =>
    simp only [List.map_cons, List.map_nil, List.cons.injEq, and_true] at em
    obtain ⟨rfl, rfl, rfl⟩ := em
    rfl
theorem bo2 {d : He.DefD} {v : DefV} (h : bindB v.ps d = true) (e : v.ps = [("winds" : Str), ("value" : Str)]) : BindOk d v := by
  obtain ⟨args, ea, em⟩ := bindB_ok h
  intro kV doc pm an cdv ct us hl
  rw [e] at em hl ⊢
  rw [ea]
  have hn : args.length = 2 := by have := congrArg List.length em; simpa using this
  match args, em, hn, us, hl with
  | [⟨a0, n0, p0⟩, ⟨a1, n1, p1⟩], em, _, [u0, u1], _ =>
    simp only [List.map_cons, List.map_nil, List.cons.injEq, and_true] at em
    obtain ⟨rfl, rfl⟩ := em
    rfl
theorem bo3 {d : He.DefD} {v : DefV} (h : bindB v.ps d = true) (e : v.ps = [("mill" : Str), ("value" : Str)]) : BindOk d v := by
  obtain ⟨args, ea, em⟩ := bindB_ok h
  intro kV doc pm an cdv ct us hl
  rw [e] at em hl ⊢
  rw [ea]
  have hn : args.length = 2 := by have := congrArg List.length em; simpa using this
  match args, em, hn, us, hl with
  | [⟨a0, n0, p0⟩, ⟨a1, n1, p1⟩], em, _, [u0, u1], _ =>
    simp only [List.map_cons, List.map_nil, List.cons.injEq, and_true] at em
    obtain ⟨rfl, rfl⟩ := em
    rfl
theorem bo4 {d : He.DefD} {v : DefV} (h : bindB v.ps d = true) (e : v.ps = [("mill" : Str), ("state" : Str)]) : BindOk d v := by
  obtain ⟨args, ea, em⟩ := bindB_ok h
  intro kV doc pm an cdv ct us hl
  rw [e] at em hl ⊢
  rw [ea]
  have hn : args.length = 2 := by have := congrArg List.length em; simpa using this
  match args, em, hn, us, hl with
  | [⟨a0, n0, p0⟩, ⟨a1, n1, p1⟩], em, _, [u0, u1], _ =>
    simp only [List.map_cons, List.map_nil, List.cons.injEq, and_true] at em
    obtain ⟨rfl, rfl⟩ := em
    rfl
theorem bo5 {d : He.DefD} {v : DefV} (h : bindB v.ps d = true) (e : v.ps = [("mill" : Str), ("trim" : Str)]) : BindOk d v := by
  obtain ⟨args, ea, em⟩ := bindB_ok h
  intro kV doc pm an cdv ct us hl
  rw [e] at em hl ⊢
  rw [ea]
  have hn : args.length = 2 := by have := congrArg List.length em; simpa using this
  match args, em, hn, us, hl with
  | [⟨a0, n0, p0⟩, ⟨a1, n1, p1⟩], em, _, [u0, u1], _ =>
    simp only [List.map_cons, List.map_nil, List.cons.injEq, and_true] at em
    obtain ⟨rfl, rfl⟩ := em
    rfl
theorem bo6 {d : He.DefD} {v : DefV} (h : bindB v.ps d = true) (e : v.ps = [("mill" : Str), ("wind" : Str)]) : BindOk d v := by
  obtain ⟨args, ea, em⟩ := bindB_ok h
  intro kV doc pm an cdv ct us hl
  rw [e] at em hl ⊢
  rw [ea]
  have hn : args.length = 2 := by have := congrArg List.length em; simpa using this
  match args, em, hn, us, hl with
  | [⟨a0, n0, p0⟩, ⟨a1, n1, p1⟩], em, _, [u0, u1], _ =>
    simp only [List.map_cons, List.map_nil, List.cons.injEq, and_true] at em
    obtain ⟨rfl, rfl⟩ := em
    rfl
theorem bo7 {d : He.DefD} {v : DefV} (h : bindB v.ps d = true) (e : v.ps = [("mill" : Str)]) : BindOk d v := by
  obtain ⟨args, ea, em⟩ := bindB_ok h
  intro kV doc pm an cdv ct us hl
  rw [e] at em hl ⊢
  rw [ea]
  have hn : args.length = 1 := by have := congrArg List.length em; simpa using this
  match args, em, hn, us, hl with
  | [⟨a0, n0, p0⟩], em, _, [u0], _ =>
    simp only [List.map_cons, List.map_nil, List.cons.injEq, and_true] at em
    obtain rfl := em
    rfl
theorem bo8 {d : He.DefD} {v : DefV} (h : bindB v.ps d = true) (e : v.ps = [("mill" : Str), ("one" : Str), ("other" : Str)]) : BindOk d v := by
  obtain ⟨args, ea, em⟩ := bindB_ok h
  intro kV doc pm an cdv ct us hl
  rw [e] at em hl ⊢
  rw [ea]
  have hn : args.length = 3 := by have := congrArg List.length em; simpa using this
  match args, em, hn, us, hl with
  | [⟨a0, n0, p0⟩, ⟨a1, n1, p1⟩, ⟨a2, n2, p2⟩], em, _, [u0, u1, u2], _ =>
    simp only [List.map_cons, List.map_nil, List.cons.injEq, and_true] at em
    obtain ⟨rfl, rfl, rfl⟩ := em
    rfl
theorem bo9 {d : He.DefD} {v : DefV} (h : bindB v.ps d = true) (e : v.ps = [("mill" : Str), ("state" : Str), ("trim" : Str)]) : BindOk d v := by
  obtain ⟨args, ea, em⟩ := bindB_ok h
  intro kV doc pm an cdv ct us hl
  rw [e] at em hl ⊢
  rw [ea]
  have hn : args.length = 3 := by have := congrArg List.length em; simpa using this
  match args, em, hn, us, hl with
  | [⟨a0, n0, p0⟩, ⟨a1, n1, p1⟩, ⟨a2, n2, p2⟩], em, _, [u0, u1, u2], _ =>
    simp only [List.map_cons, List.map_nil, List.cons.injEq, and_true] at em
    obtain ⟨rfl, rfl, rfl⟩ := em
    rfl
theorem bo10 {d : He.DefD} {v : DefV} (h : bindB v.ps d = true) (e : v.ps = [("mill" : Str), ("state" : Str), ("trim" : Str), ("wind" : Str)]) : BindOk d v := by
  obtain ⟨args, ea, em⟩ := bindB_ok h
  intro kV doc pm an cdv ct us hl
  rw [e] at em hl ⊢
  rw [ea]
  have hn : args.length = 4 := by have := congrArg List.length em; simpa using this
  match args, em, hn, us, hl with
  | [⟨a0, n0, p0⟩, ⟨a1, n1, p1⟩, ⟨a2, n2, p2⟩, ⟨a3, n3, p3⟩], em, _, [u0, u1, u2, u3], _ =>
    simp only [List.map_cons, List.map_nil, List.cons.injEq, and_true] at em
    obtain ⟨rfl, rfl, rfl, rfl⟩ := em
    rfl
theorem bo11 {d : He.DefD} {v : DefV} (h : bindB v.ps d = true) (e : v.ps = [("mill" : Str), ("speed" : Str), ("trim" : Str), ("wind" : Str)]) : BindOk d v := by
  obtain ⟨args, ea, em⟩ := bindB_ok h
  intro kV doc pm an cdv ct us hl
  rw [e] at em hl ⊢
  rw [ea]
  have hn : args.length = 4 := by have := congrArg List.length em; simpa using this
  match args, em, hn, us, hl with
  | [⟨a0, n0, p0⟩, ⟨a1, n1, p1⟩, ⟨a2, n2, p2⟩, ⟨a3, n3, p3⟩], em, _, [u0, u1, u2, u3], _ =>
    simp only [List.map_cons, List.map_nil, List.cons.injEq, and_true] at em
    obtain ⟨rfl, rfl, rfl, rfl⟩ := em
    rfl
theorem bo12 {d : He.DefD} {v : DefV} (h : bindB v.ps d = true) (e : v.ps = [("mill" : Str), ("speed" : Str), ("trim" : Str)]) : BindOk d v := by
  obtain ⟨args, ea, em⟩ := bindB_ok h
  intro kV doc pm an cdv ct us hl
  rw [e] at em hl ⊢
  rw [ea]
  have hn : args.length = 3 := by have := congrArg List.length em; simpa using this
  match args, em, hn, us, hl with
  | [⟨a0, n0, p0⟩, ⟨a1, n1, p1⟩, ⟨a2, n2, p2⟩], em, _, [u0, u1, u2], _ =>
    simp only [List.map_cons, List.map_nil, List.cons.injEq, and_true] at em
    obtain ⟨rfl, rfl, rfl⟩ := em
    rfl
theorem bo13 {d : He.DefD} {v : DefV} (h : bindB v.ps d = true) (e : v.ps = [("mill" : Str), ("state" : Str), ("day" : Str)]) : BindOk d v := by
  obtain ⟨args, ea, em⟩ := bindB_ok h
  intro kV doc pm an cdv ct us hl
  rw [e] at em hl ⊢
  rw [ea]
  have hn : args.length = 3 := by have := congrArg List.length em; simpa using this
  match args, em, hn, us, hl with
  | [⟨a0, n0, p0⟩, ⟨a1, n1, p1⟩, ⟨a2, n2, p2⟩], em, _, [u0, u1, u2], _ =>
    simp only [List.map_cons, List.map_nil, List.cons.injEq, and_true] at em
    obtain ⟨rfl, rfl, rfl⟩ := em
    rfl
theorem bo14 {d : He.DefD} {v : DefV} (h : bindB v.ps d = true) (e : v.ps = [("mill" : Str), ("state" : Str), ("tick" : Str)]) : BindOk d v := by
  obtain ⟨args, ea, em⟩ := bindB_ok h
  intro kV doc pm an cdv ct us hl
  rw [e] at em hl ⊢
  rw [ea]
  have hn : args.length = 3 := by have := congrArg List.length em; simpa using this
  match args, em, hn, us, hl with
  | [⟨a0, n0, p0⟩, ⟨a1, n1, p1⟩, ⟨a2, n2, p2⟩], em, _, [u0, u1, u2], _ =>
    simp only [List.map_cons, List.map_nil, List.cons.injEq, and_true] at em
    obtain ⟨rfl, rfl, rfl⟩ := em
    rfl
theorem bo15 {d : He.DefD} {v : DefV} (h : bindB v.ps d = true) (e : v.ps = [("mill" : Str), ("one" : Str), ("other" : Str), ("value" : Str)]) : BindOk d v := by
  obtain ⟨args, ea, em⟩ := bindB_ok h
  intro kV doc pm an cdv ct us hl
  rw [e] at em hl ⊢
  rw [ea]
  have hn : args.length = 4 := by have := congrArg List.length em; simpa using this
  match args, em, hn, us, hl with
  | [⟨a0, n0, p0⟩, ⟨a1, n1, p1⟩, ⟨a2, n2, p2⟩, ⟨a3, n3, p3⟩], em, _, [u0, u1, u2, u3], _ =>
    simp only [List.map_cons, List.map_nil, List.cons.injEq, and_true] at em
    obtain ⟨rfl, rfl, rfl, rfl⟩ := em
    rfl
theorem bo16 {d : He.DefD} {v : DefV} (h : bindB v.ps d = true) (e : v.ps = [("mill" : Str), ("state" : Str), ("ticks" : Str)]) : BindOk d v := by
  obtain ⟨args, ea, em⟩ := bindB_ok h
  intro kV doc pm an cdv ct us hl
  rw [e] at em hl ⊢
  rw [ea]
  have hn : args.length = 3 := by have := congrArg List.length em; simpa using this
  match args, em, hn, us, hl with
  | [⟨a0, n0, p0⟩, ⟨a1, n1, p1⟩, ⟨a2, n2, p2⟩], em, _, [u0, u1, u2], _ =>
    simp only [List.map_cons, List.map_nil, List.cons.injEq, and_true] at em
    obtain ⟨rfl, rfl, rfl⟩ := em
    rfl
theorem bo17 {d : He.DefD} {v : DefV} (h : bindB v.ps d = true) (e : v.ps = [("mill" : Str), ("state" : Str), ("ticks" : Str), ("value" : Str)]) : BindOk d v := by
  obtain ⟨args, ea, em⟩ := bindB_ok h
  intro kV doc pm an cdv ct us hl
  rw [e] at em hl ⊢
  rw [ea]
  have hn : args.length = 4 := by have := congrArg List.length em; simpa using this
  match args, em, hn, us, hl with
  | [⟨a0, n0, p0⟩, ⟨a1, n1, p1⟩, ⟨a2, n2, p2⟩, ⟨a3, n3, p3⟩], em, _, [u0, u1, u2, u3], _ =>
    simp only [List.map_cons, List.map_nil, List.cons.injEq, and_true] at em
    obtain ⟨rfl, rfl, rfl, rfl⟩ := em
    rfl
theorem bo18 {d : He.DefD} {v : DefV} (h : bindB v.ps d = true) (e : v.ps = [("script" : Str), ("place" : Str)]) : BindOk d v := by
  obtain ⟨args, ea, em⟩ := bindB_ok h
  intro kV doc pm an cdv ct us hl
  rw [e] at em hl ⊢
  rw [ea]
  have hn : args.length = 2 := by have := congrArg List.length em; simpa using this
  match args, em, hn, us, hl with
  | [⟨a0, n0, p0⟩, ⟨a1, n1, p1⟩], em, _, [u0, u1], _ =>
    simp only [List.map_cons, List.map_nil, List.cons.injEq, and_true] at em
    obtain ⟨rfl, rfl⟩ := em
    rfl
theorem bo19 {d : He.DefD} {v : DefV} (h : bindB v.ps d = true) (e : v.ps = [("pot" : Str), ("upto" : Str)]) : BindOk d v := by
  obtain ⟨args, ea, em⟩ := bindB_ok h
  intro kV doc pm an cdv ct us hl
  rw [e] at em hl ⊢
  rw [ea]
  have hn : args.length = 2 := by have := congrArg List.length em; simpa using this
  match args, em, hn, us, hl with
  | [⟨a0, n0, p0⟩, ⟨a1, n1, p1⟩], em, _, [u0, u1], _ =>
    simp only [List.map_cons, List.map_nil, List.cons.injEq, and_true] at em
    obtain ⟨rfl, rfl⟩ := em
    rfl
theorem bo20 {d : He.DefD} {v : DefV} (h : bindB v.ps d = true) (e : v.ps = [("pot" : Str), ("some" : Str)]) : BindOk d v := by
  obtain ⟨args, ea, em⟩ := bindB_ok h
  intro kV doc pm an cdv ct us hl
  rw [e] at em hl ⊢
  rw [ea]
  have hn : args.length = 2 := by have := congrArg List.length em; simpa using this
  match args, em, hn, us, hl with
  | [⟨a0, n0, p0⟩, ⟨a1, n1, p1⟩], em, _, [u0, u1], _ =>
    simp only [List.map_cons, List.map_nil, List.cons.injEq, and_true] at em
    obtain ⟨rfl, rfl⟩ := em
    rfl
theorem bo21 {d : He.DefD} {v : DefV} (h : bindB v.ps d = true) (e : v.ps = [("script" : Str), ("limit" : Str)]) : BindOk d v := by
  obtain ⟨args, ea, em⟩ := bindB_ok h
  intro kV doc pm an cdv ct us hl
  rw [e] at em hl ⊢
  rw [ea]
  have hn : args.length = 2 := by have := congrArg List.length em; simpa using this
  match args, em, hn, us, hl with
  | [⟨a0, n0, p0⟩, ⟨a1, n1, p1⟩], em, _, [u0, u1], _ =>
    simp only [List.map_cons, List.map_nil, List.cons.injEq, and_true] at em
    obtain ⟨rfl, rfl⟩ := em
    rfl
theorem bo22 {d : He.DefD} {v : DefV} (h : bindB v.ps d = true) (e : v.ps = [("call" : Str)]) : BindOk d v := by
  obtain ⟨args, ea, em⟩ := bindB_ok h
  intro kV doc pm an cdv ct us hl
  rw [e] at em hl ⊢
  rw [ea]
  have hn : args.length = 1 := by have := congrArg List.length em; simpa using this
  match args, em, hn, us, hl with
  | [⟨a0, n0, p0⟩], em, _, [u0], _ =>
    simp only [List.map_cons, List.map_nil, List.cons.injEq, and_true] at em
    obtain rfl := em
    rfl
theorem bo23 {d : He.DefD} {v : DefV} (h : bindB v.ps d = true) (e : v.ps = [("call" : Str), ("due" : Str)]) : BindOk d v := by
  obtain ⟨args, ea, em⟩ := bindB_ok h
  intro kV doc pm an cdv ct us hl
  rw [e] at em hl ⊢
  rw [ea]
  have hn : args.length = 2 := by have := congrArg List.length em; simpa using this
  match args, em, hn, us, hl with
  | [⟨a0, n0, p0⟩, ⟨a1, n1, p1⟩], em, _, [u0, u1], _ =>
    simp only [List.map_cons, List.map_nil, List.cons.injEq, and_true] at em
    obtain ⟨rfl, rfl⟩ := em
    rfl
theorem bo24 {d : He.DefD} {v : DefV} (h : bindB v.ps d = true) (e : v.ps = [("pot" : Str)]) : BindOk d v := by
  obtain ⟨args, ea, em⟩ := bindB_ok h
  intro kV doc pm an cdv ct us hl
  rw [e] at em hl ⊢
  rw [ea]
  have hn : args.length = 1 := by have := congrArg List.length em; simpa using this
  match args, em, hn, us, hl with
  | [⟨a0, n0, p0⟩], em, _, [u0], _ =>
    simp only [List.map_cons, List.map_nil, List.cons.injEq, and_true] at em
    obtain rfl := em
    rfl
theorem bo25 {d : He.DefD} {v : DefV} (h : bindB v.ps d = true) (e : v.ps = [("script" : Str)]) : BindOk d v := by
  obtain ⟨args, ea, em⟩ := bindB_ok h
  intro kV doc pm an cdv ct us hl
  rw [e] at em hl ⊢
  rw [ea]
  have hn : args.length = 1 := by have := congrArg List.length em; simpa using this
  match args, em, hn, us, hl with
  | [⟨a0, n0, p0⟩], em, _, [u0], _ =>
    simp only [List.map_cons, List.map_nil, List.cons.injEq, and_true] at em
    obtain rfl := em
    rfl
def psL : List (List Str) := [["value"], ["value", "low", "high"], ["winds", "value"], ["mill", "value"], ["mill", "state"], ["mill", "trim"], ["mill", "wind"], ["mill"], ["mill", "one", "other"], ["mill", "state", "trim"], ["mill", "state", "trim", "wind"], ["mill", "speed", "trim", "wind"], ["mill", "speed", "trim"], ["mill", "state", "day"], ["mill", "state", "tick"], ["mill", "one", "other", "value"], ["mill", "state", "ticks"], ["mill", "state", "ticks", "value"], ["script", "place"], ["pot", "upto"], ["pot", "some"], ["script", "limit"], ["call"], ["call", "due"], ["pot"], ["script"]]
def bindAllB : List He.DefD → List DefV → Bool
  | d :: ds, v :: vs => bindB v.ps d && psL.contains v.ps && bindAllB ds vs
  | _, _ => true
theorem bo_any {d : He.DefD} {v : DefV} (h : bindB v.ps d = true) (m : psL.contains v.ps = true) : BindOk d v := by
  have m : v.ps ∈ psL := List.contains_iff_mem.mp m
  unfold psL at m
  simp only [List.mem_cons, List.not_mem_nil, or_false] at m
  rcases m with e | e | e | e | e | e | e | e | e | e | e | e | e | e | e | e | e | e | e | e | e | e | e | e | e | e
  · exact bo0 h e
  · exact bo1 h e
  · exact bo2 h e
  · exact bo3 h e
  · exact bo4 h e
  · exact bo5 h e
  · exact bo6 h e
  · exact bo7 h e
  · exact bo8 h e
  · exact bo9 h e
  · exact bo10 h e
  · exact bo11 h e
  · exact bo12 h e
  · exact bo13 h e
  · exact bo14 h e
  · exact bo15 h e
  · exact bo16 h e
  · exact bo17 h e
  · exact bo18 h e
  · exact bo19 h e
  · exact bo20 h e
  · exact bo21 h e
  · exact bo22 h e
  · exact bo23 h e
  · exact bo24 h e
  · exact bo25 h e
theorem bindAllB_at : ∀ {ds : List He.DefD} {vs : List DefV}, bindAllB ds vs = true → ∀ (i : Nat) (d : He.DefD) (v : DefV), ds[i]? = some d → vs[i]? = some v → BindOk d v
  | [], _, _, i, d, v, h, _ => by simp at h
  | _ :: _, [], _, i, d, v, _, h => by simp at h
  | d0 :: ds, v0 :: vs, h, i, d, v, e1, e2 => by
    unfold bindAllB at h
    simp only [Bool.and_eq_true] at h
    cases i with
    | zero => cases e1; cases e2; exact bo_any h.1.1 h.1.2
    | succ i => exact bindAllB_at h.2 i d v (by simpa using e1) (by simpa using e2)
end K86
end Vi
/-! text Fk86 -/
set_option Elab.async false
set_option linter.all false
set_option maxRecDepth 100000
set_option maxHeartbeats 0
namespace Hd
open PySem PySem.Spec PyProof.Rows L2 Vi
def nul : He.DefD := ⟨("", none), "", "", ⟨[], [], none, [], [], none, []⟩, [], default, [], []⟩
def dR : He.DefD := (fn[K86.iR]?).getD nul
def dC : He.DefD := (fn[K86.iC]?).getD nul
def dI : He.DefD := (fn[K86.iI]?).getD nul
def dL : He.DefD := (fn[K86.iL]?).getD nul
theorem eL : fn.length = K86.prog.length := by kernel_rfl
theorem eB : K86.bindAllB fn K86.prog = true := by kernel_rfl
theorem eA : atAll fn = true := by kernel_rfl
theorem eG : gnB clN K86.gnL = true := by kernel_rfl
theorem eC : okAll (nmO fn) (gnOf K86.gnL) fn K86.prog = true := by kernel_rfl
theorem e3 : rt3 (nmO fn) (gnOf K86.gnL) "MillError" dR dC dI K86.v60 K86.rtD = true := by kernel_rfl
theorem rR : fn[K86.iR]? = some dR := by kernel_rfl
theorem rC : fn[K86.iC]? = some dC := by kernel_rfl
theorem rI : fn[K86.iI]? = some dI := by kernel_rfl
theorem rL : fn[K86.iL]? = some dL := by kernel_rfl
theorem eT : tf = [dR.at_] := by kernel_rfl
theorem eN : (HandSHeadRun.topDef R.prog 93).name = dL.name := by kernel_rfl
theorem roomL : RoomG (5 * 12 + 2) callerA := ⟨⟨rfl, by decide, by decide⟩, rfl⟩
theorem top : (Pg.main.scope.names.lookup ("super" : PySem.Str)).isSome = false := by kernel_rfl
end Hd
/-! text Zk86 -/
set_option Elab.async false
set_option linter.all false
set_option maxRecDepth 100000
set_option maxHeartbeats 0
open PySem PySem.W PySem.Calls PyProof.Rows
theorem PySem.Challenge.cw_neverrunaway_k86_what_mills_and_days_ref_holds : PySem.Challenge.rw_neverrunaway_k86_what_mills_and_days_ref.Holds := by
  w_on; o_law
  refine HandSHeadRun.head_any (r := Hd.R) (q := view Hd.R.prog [93]) (H := Hd.hk) (ob := Hd.ob) (M := 40000) (loose := Hd.names) (d := HandSHeadRun.topDef Hd.R.prog 93) (kwd := []) Hd.ob_eq
    (by kernel_rfl) (fun s => by kernel_rfl) Hd.run (by kernel_rfl) (by kernel_rfl) (by kernel_rfl) (by rfl) (by first | assumption | decide +kernel) (by decide +kernel) ⟨rfl, rfl, rfl, rfl, rfl, by decide +kernel⟩ ?hw ?hc
  case hw => w_witness2
  case hc =>
    have z := Vi.walk_vi (l := PySem.Challenge.rw_neverrunaway_k86_what_mills_and_days_ref) (q := view Hd.R.prog [93]) (loose := Hd.names) (XP := PySem.W.XL (view Hd.R.prog [93]) []) (d := HandSHeadRun.topDef Hd.R.prog 93) (n := 63) (k := 12) (iR := Vi.K86.iR) (iC := Vi.K86.iC) (iI := Vi.K86.iI) (iL := Vi.K86.iL) (fn := Hd.fn) (prog := Vi.K86.prog) (clN := Hd.clN) (gnL := Vi.K86.gnL) (file := Hd.Pg.main.file)
      rfl (by decide) (by kernel_rfl) Hd.roomL Hd.eN Hd.eL Hd.eC (fun i d v => Vi.K86.bindAllB_at Hd.eB i d v) Hd.eA Hd.eG rfl Hd.top rfl Hd.rR rfl Hd.rC rfl Hd.rI rfl Hd.rL rfl rfl rfl rfl Hd.e3 (fun ns _ _ => Vi.K86.law_holds ns)
    rw [← Hd.eT] at z
    exact z
