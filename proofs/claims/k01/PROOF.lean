import PyProof.Rows.All
import Wide.All
import OpenK.AllK
import Wide.FinOn
import HandS.Head0
import HandS.Head1
import HandS.Head2
import HandS.HeadEnd
import HandS.HeadHook1
import HandS.HeadHook2
import HandS.HeadHook3
import HandS.HeadHook4
import HandS.HeadWalk
import HandS.WordsExc
import HandS.ForMost
import HandS.ForExc
import HandS.IsInst
import HandS.Exc
import HandS.ExcInit
import HandS.MakeKwOnly
import HandS.ExcValue
import HandS.Deep
import HandS.Lambda
import HandS.TupAny
import HandS.TupLen
import HandS.DictTup
import HandS.Style
import HandS.Conv
import HandS.Zip
import HandS.NoneIn
import HandS.More
import HandS.Star
import HandS.Defaults
import KE.KExcIs
import HandS.ForDict
import HandS.ExcCtx
import HandS.Hot
import HandS.DictComp
import HandS.IterVal
import PySem.Challenge.RW_tiedproofs_k01_whole_formulas
section
set_option Elab.async false
set_option linter.all false
set_option autoImplicit false
set_option maxRecDepth 100000
/-! VA: what the head's look at a law needs -/
namespace VI
open PySem PySem.Spec L2
inductive Kd where
  | z | o | b
  deriving DecidableEq
/-! ### what a law's defs are, by number -/
structure Tb where
  nm : Nat → Str
  st : Nat → Stmt
  ps : Nat → List Str
  N : Nat → List Str
  rk : Nat → Kd
  pu : Nat → Bool
abbrev Tb.D (T : Tb) (j : Nat) (K : PySem.W.Frag) (f : Addr) (fd : FuncData) : Prop := FunD K (T.nm j) (T.nm j) (defArgs (T.st j)) (defBody (T.st j)) (defScope (T.st j)) [] [] f fd
end VI
namespace VI
open PySem PySem.Spec L2
open He (ga ma)
structure ClT where
  nm : Nat → Str
  fl : Nat → List Str
  st : Nat → Stmt
def initSt (s : Stmt) : Stmt := match s with
  | .ClassDef _ _ _ body _ _ _ _ _ _ _ => body.getD 0 (.Pass ⟨0, 0, 0, 0⟩)
  | _ => .Pass ⟨0, 0, 0, 0⟩
abbrev ClT.D (C : ClT) (j : Nat) (K : PySem.W.Frag) (f : Addr) (fd : FuncData) : Prop := FunD K "__init__" (C.nm j ++ ".__init__") (defArgs (C.st j)) (defBody (C.st j)) (defScope (C.st j)) [] [] f fd
def mroL (K : PySem.W.Frag) (P C : Addr) : List Value := (if C = P then [] else [.ref C]) ++ .ref P :: He.veBase
def oexB (K : PySem.W.Frag) (C : Addr) : Bool := match K.lookup C with
  | some ⟨.type t, _, .cls cd, sl⟩ => (match cd.mro, sl.toList with
    | .ref C' :: bm, [_, _, _, _, some (.builtin n), _] => decide (t = "type") && (decide (C' = C) && (decide (n = "ValueError.__new__") && (!cd.hasDel && (cd.hasDict && HandSPX.refsVE bm))))
    | _, _ => false)
  | _ => false
def xcB (K : PySem.W.Frag) (C : Addr) : Bool := (PySem.W.clsIn K C).isSome && (decide (PySem.W.findIn K (.ref C) "__getattribute__" = some (some (.builtin "BaseException.__getattribute__"))) && (decide (PySem.W.findIn K (.ref C) "__getattr__" = some none) && (decide (PySem.W.subIn K (.ref C) (.type "BaseException") = some true) && (PySem.W.hasDictIn K C &&
  (decide (PySem.W.findIn K (.ref C) "__class__" = some (some (.builtin "object.__class__"))) && (decide (PySem.W.specialIn K (.builtin "object.__class__") "__get__" = some (some (.builtin "getset_descriptor.__get__"))) && (decide (PySem.W.takesIn K (.builtin "object.__class__") = some true) && decide (PySem.W.mroIn K C (.type "object") = some true))))))))
/-- all that is asked of the class at C; P: the base of all -/
def clsB (K : PySem.W.Frag) (P C : Addr) (fl : List Str) : Bool := decide ((PySem.W.clsIn K C).map (·.mro) = some (mroL K P C)) && (xcB K C && (decide (PySem.W.typeIn K (.ref C) = some (.type "type")) && (PySem.W.keepIn K (.ref C) && (match fl with
  | [] => PySem.W.excIn K C He.veBase "ValueError.__new__"
  | f :: _ => oexB K C && (decide (PySem.W.findIn K (.ref C) "__setattr__" = some (some (.builtin "object.__setattr__"))) && (decide (PySem.W.findIn K (.ref C) "__init__" = some (some (.ref (ma K C "__init__")))) && (decide (PySem.W.typeIn K (.ref (ma K C "__init__")) = some (.type "function")) && decide (PySem.W.findIn K (.ref C) f = some none))))))))
end VI
namespace VI
open PySem PySem.Spec L2 He
def upT (g : Addr → Option Obj) (a : Addr) : List Addr := match g a with
  | some ⟨_, _, .cls cd, _⟩ => [cd.ns]
  | some ⟨_, _, .func fd, _⟩ => refV fd.code
  | _ => []
def upN (g : Addr → Option Obj) (a : Addr) : List Addr := match g a with
  | some ⟨_, _, .dict es _, _⟩ => es.toList.flatMap fun e => refV e.val
  | _ => []
/-- the module's names, the classes' and defs' parts, the methods, their code -/
def asC (g : Addr → Option Obj) : List Addr :=
  (fun l1 : List Addr => (fun l2 : List Addr => (fun l3 : List Addr => mainGlobals :: (l1 ++ (l2 ++ (l3 ++ l3.flatMap (upT g))))) (l2.flatMap (upN g))) (l1.flatMap (upT g))) (upN g mainGlobals)
abbrev AlV : Type := AlD × Bool
def obsV (fa : List Fa) (fn : List DefD) (ex : PySem.W.Frag → Bool) (g : Addr → Option Obj) : AlV := (obsD fa fn (frG g (asC g)), ex (frG g (asC g)))
def SaysV (fa : List Fa) (fn : List DefD) (ex : PySem.W.Frag → Bool) (K : PySem.W.Frag) : Prop := SaysD fa fn K ∧ ex K = true
def hookV (fa : List Fa) (fn : List DefD) (ex : PySem.W.Frag → Bool) : PySem.W.Hook where
  α := AlV
  obs := fun s => obsV fa fn ex s.heap.get?
  val := fun _ => (valD fn, true)
  says := fun _ h => ∃ K : PySem.W.Frag, K.In h ∧ SaysV fa fn ex K
  of := fun _ _ e => ⟨_, frG_in, congrArg (fun z : AlV => z.1) e, congrArg (fun z : AlV => z.2) e⟩
  keeps := fun _ _ _ ⟨K, hK, c⟩ k => ⟨K, PySem.W.Frag.In.keeps hK k, c⟩
theorem obsV_eq {fa : List Fa} {fn : List DefD} {ex : PySem.W.Frag → Bool} {g : Addr → Option Obj} {s : Shared} (h : ∀ a, g a = s.heap.get? a) : obsV fa fn ex g = (hookV fa fn ex).obs s := by
  have e : g = s.heap.get? := funext h
  rw [e] <;> rfl
end VI
namespace VI
open PySem PySem.Spec L2 He
/-- the head's facts with tables: dicts of the top with text keys, the defs' empty code tables (not among what is looked at) -/
def obsW (fa : List Fa) (fn : List DefD) (ts : List Tab) (tf : List Defn) (ex : PySem.W.Frag → Bool) (g : Addr → Option Obj) : AlX :=
  (obsT fa fn ts (frG g (asC g)), ex (frG g (asC g)) && tabsB g tf (frG g (asC g)) && tf.all fun p => ((frG g (asC g)).lookup (cT (frG g (asC g)) p).2).isNone)
theorem saysW_of {fa : List Fa} {fn : List DefD} {ts : List Tab} {tf : List Defn} {ex : PySem.W.Frag → Bool} {w : World} {h : Heap} (e : obsW fa fn ts tf ex h.get? = valX fn ts w) : SaysX fa fn ts tf ex w h (frG h.get? (asC h.get?)) := by
  have e1 : obsT fa fn ts (frG h.get? (asC h.get?)) = valT fn ts w := congrArg (fun z : AlX => z.1) e
  have e2 : (ex (frG h.get? (asC h.get?)) && tabsB h.get? tf (frG h.get? (asC h.get?)) && tf.all fun p => ((frG h.get? (asC h.get?)).lookup (cT (frG h.get? (asC h.get?)) p).2).isNone) = true := congrArg (fun z : AlX => z.2) e
  obtain ⟨h12, h3⟩ := ba e2
  obtain ⟨h1, h2⟩ := ba h12
  refine ⟨e1, h1, fun p hp => (ba (List.all_eq_true.mp h2 p hp)).1, fun p hp => Option.isNone_iff_eq_none.mp (List.all_eq_true.mp h3 p hp), fun p hp => ?_⟩
  have h4 := (ba (List.all_eq_true.mp h2 p hp)).2
  cases q : h.get? (cT (frG h.get? (asC h.get?)) p).2 with
  | none =>
    rw [q] at h4
    cases h4
  | some o =>
    rw [q] at h4
    rw [emptyTab_eq h4]
def hookW (fa : List Fa) (fn : List DefD) (ts : List Tab) (tf : List Defn) (ex : PySem.W.Frag → Bool) : PySem.W.Hook where
  α := AlX
  obs := fun s => obsW fa fn ts tf ex s.heap.get?
  val := fun w => valX fn ts w
  says := fun w h => ∃ K : PySem.W.Frag, K.In h ∧ SaysX fa fn ts tf ex w h K
  of := fun _ _ e => ⟨_, frG_in, saysW_of e⟩
  keeps := fun _ _ _ ⟨K, hK, c⟩ k => ⟨K, PySem.W.Frag.In.keeps hK k, ⟨c.t, c.more, c.hd, c.out, fun p hp => k _ _ (c.empty p hp)⟩⟩
theorem obsW_eq {fa : List Fa} {fn : List DefD} {ts : List Tab} {tf : List Defn} {ex : PySem.W.Frag → Bool} {g : Addr → Option Obj} {s : Shared} (h : ∀ a, g a = s.heap.get? a) : obsW fa fn ts tf ex g = (hookW fa fn ts tf ex).obs s := by
  have e : g = s.heap.get? := funext h
  rw [e] <;> rfl
end VI
end

section
set_option Elab.async false
set_option linter.all false
set_option autoImplicit false
set_option maxRecDepth 100000
set_option maxHeartbeats 0
namespace K01
open PySem PySem.Spec L2 VI
abbrev top (i : Nat) : Stmt := PySem.Challenge.pw_tiedproofs_k01_whole_formulas.main.body.getD i (.Pass ⟨0, 0, 0, 0⟩)
/-! the defs, by number -/
def nmL : List Str := [("is_integer" : Str), ("is_number" : Str), ("is_list" : Str), ("is_row" : Str), ("is_text" : Str), ("is_letters" : Str), ("is_word" : Str), ("is_atom" : Str), ("is_formula" : Str), ("as_formula" : Str), ("need_formula" : Str), ("turned_of" : Str), ("turned" : Str), ("atoms_in" : Str), ("atoms_of" : Str), ("size_of" : Str), ("depth_in" : Str), ("depth_of" : Str), ("words_of" : Str), ("all_places" : Str), ("places_of" : Str), ("is_place_of" : Str), ("at_place" : Str), ("need_place" : Str), ("part_of" : Str), ("with_part" : Str), ("put_at" : Str), ("_law_start" : Str), ("_law_pick" : Str), ("_law_one" : Str), ("_law_mixed" : Str), ("_law_same" : Str), ("_law_copy" : Str), ("_law_loose" : Str), ("_law_spoil" : Str), ("_law_free_word" : Str), ("_law_words" : Str), ("_law_word_set" : Str), ("_law_draw_formula" : Str), ("_law_is_atom" : Str), ("_law_turned" : Str), ("_law_is_formula" : Str), ("_law_is_word" : Str), ("_law_atoms" : Str), ("_law_places_in" : Str), ("_law_part_of" : Str), ("_law_put" : Str), ("_law_told" : Str), ("_law_depth" : Str), ("_law_bent" : Str), ("_law_parts_asked" : Str), ("law" : Str)]
def stL : List Nat := [2, 3, 4, 5, 6, 7, 8, 17, 18, 19, 20, 21, 22, 23, 24, 25, 26, 27, 28, 29, 30, 31, 32, 33, 34, 35, 36, 38, 39, 40, 41, 42, 43, 44, 45, 46, 47, 48, 49, 50, 51, 52, 53, 54, 55, 56, 57, 58, 59, 60, 61, 62]
def psL : List (List Str) := [[("thing" : Str)], [("thing" : Str)], [("thing" : Str)], [("thing" : Str), ("many" : Str)], [("thing" : Str)], [("thing" : Str)], [("thing" : Str)], [("formula" : Str)], [("thing" : Str)], [("formula" : Str)], [("formula" : Str)], [("formula" : Str)], [("formula" : Str)], [("formula" : Str)], [("formula" : Str)], [("formula" : Str)], [("formula" : Str)], [("formula" : Str)], [("formula" : Str)], [("formula" : Str)], [("formula" : Str)], [("formula" : Str), ("thing" : Str)], [("formula" : Str), ("place" : Str)], [("formula" : Str), ("place" : Str)], [("formula" : Str), ("place" : Str)], [("formula" : Str), ("place" : Str), ("part" : Str)], [("formula" : Str), ("place" : Str), ("part" : Str)], [("script" : Str)], [("state" : Str), ("many" : Str)], [("state" : Str), ("things" : Str)], [("state" : Str), ("things" : Str)], [("found" : Str), ("due" : Str)], [("thing" : Str)], [("state" : Str), ("thing" : Str)], [("thing" : Str)], [("taken" : Str), ("word" : Str)], [("state" : Str), ("many" : Str)], [("state" : Str), ("many" : Str)], [("state" : Str), ("words" : Str), ("many" : Str)], [("formula" : Str)], [("formula" : Str)], [("thing" : Str)], [("thing" : Str)], [("formula" : Str)], [("formula" : Str)], [("formula" : Str), ("place" : Str)], [("formula" : Str), ("place" : Str), ("part" : Str)], [("ask" : Str)], [("formula" : Str)], [("state" : Str), ("formula" : Str)], [("state" : Str), ("formula" : Str)], [("script" : Str)]]
def nL : List (List Str) := [[("thing" : Str)], [("thing" : Str)], [("thing" : Str)], [("thing" : Str), ("many" : Str)], [("thing" : Str)], [("thing" : Str), ("sign" : Str)], [("thing" : Str)], [("formula" : Str)], [("thing" : Str)], [("formula" : Str)], [("formula" : Str)], [("formula" : Str)], [("formula" : Str)], [("formula" : Str)], [("formula" : Str)], [("formula" : Str)], [("formula" : Str)], [("formula" : Str)], [("formula" : Str), ("sign" : Str), ("word" : Str)], [("formula" : Str), ("place" : Str)], [("formula" : Str)], [("formula" : Str), ("thing" : Str), ("step" : Str)], [("formula" : Str), ("place" : Str), ("step" : Str)], [("formula" : Str), ("place" : Str)], [("formula" : Str), ("place" : Str)], [("formula" : Str), ("place" : Str), ("part" : Str), ("parts" : Str)], [("formula" : Str), ("place" : Str), ("part" : Str)], [("script" : Str)], [("state" : Str), ("many" : Str), ("mixed" : Str), ("cell" : Str), ("digit" : Str)], [("state" : Str), ("things" : Str)], [("state" : Str), ("things" : Str), ("left" : Str), ("found" : Str), ("k" : Str)], [("found" : Str), ("due" : Str), ("key" : Str), ("mine" : Str), ("theirs" : Str)], [("thing" : Str), ("found" : Str), ("key" : Str), ("one" : Str)], [("state" : Str), ("thing" : Str), ("some" : Str), ("found" : Str), ("key" : Str), ("one" : Str)], [("thing" : Str), ("one" : Str), ("key" : Str)], [("taken" : Str), ("word" : Str), ("k" : Str)], [("state" : Str), ("many" : Str), ("few" : Str), ("words" : Str), ("k" : Str), ("word" : Str), ("more" : Str)], [("state" : Str), ("many" : Str)], [("state" : Str), ("words" : Str), ("many" : Str), ("one" : Str)], [("formula" : Str)], [("formula" : Str), ("turns" : Str)], [("thing" : Str)], [("thing" : Str), ("sign" : Str)], [("formula" : Str)], [("formula" : Str), ("place" : Str)], [("formula" : Str), ("place" : Str), ("step" : Str)], [("formula" : Str), ("place" : Str), ("part" : Str)], [("ask" : Str), ("found" : Str), ("e" : Str)], [("formula" : Str)], [("state" : Str), ("formula" : Str), ("odds" : Str)], [("state" : Str), ("formula" : Str), ("places" : Str), ("k" : Str), ("place" : Str), ("fresh" : Str), ("part" : Str), ("due" : Str), ("told" : Str), ("odd" : Str)], [("script" : Str), ("state" : Str), ("turn" : Str), ("words" : Str), ("formula" : Str), ("handed" : Str), ("atoms" : Str), ("kept" : Str), ("told" : Str), ("unlike" : Str), ("due" : Str), ("k" : Str), ("bent" : Str), ("right" : Str), ("ask" : Str), ("atom" : Str)]]
def puL : List Bool := [true, true, true, true, true, true, true, true, true, true, true, true, true, true, true, true, true, true, true, true, true, true, true, true, true, true, true, true, false, false, false, true, true, false, false, true, false, false, false, true, true, true, true, true, true, true, true, true, true, false, false, false]
def T : Tb := ⟨fun j => nmL.getD j "", fun j => top (stL.getD j 0), fun j => psL.getD j [], fun j => nL.getD j [], fun _ => .z, fun j => puL.getD j false⟩
/-! the classes: 0 ProofError, 1 BadFormula, 2 BadPart, 3 BadPlace -/
def clL : List Str := [("ProofError" : Str), ("BadFormula" : Str), ("BadPart" : Str), ("BadPlace" : Str)]
def clSt : List Nat := [10, 12, 13, 14]
def clF : List (List Str) := [[], [("formula" : Str)], [("part" : Str)], [("place" : Str)]]
def clP : List Str := [("" : Str), ("formula" : Str), ("part" : Str), ("place" : Str)]
def bxL : List String := ["IndexError", "KeyError", "TypeError", "ValueError"]
def C : ClT := ⟨fun j => clL.getD j "", fun j => clF.getD j [], fun j => initSt (top (clSt.getD j 0))⟩
abbrev nc : Nat := 4
abbrev nd : Nat := 52
def freeL : List Str := [("IndexError" : Str), ("KeyError" : Str), ("TypeError" : Str), ("ValueError" : Str), ("abs" : Str), ("all" : Str), ("any" : Str), ("bool" : Str), ("dict" : Str), ("enumerate" : Str), ("int" : Str), ("isinstance" : Str), ("len" : Str), ("list" : Str), ("max" : Str), ("min" : Str), ("range" : Str), ("reversed" : Str), ("sorted" : Str), ("str" : Str), ("sum" : Str), ("tuple" : Str), ("zip" : Str)]

def dDef (j : Nat) : He.DefD := ⟨(T.nm j, none), T.nm j, T.nm j, defArgs (T.st j), defBody (T.st j), defScope (T.st j), [], []⟩
def dIni (j : Nat) : He.DefD := ⟨(C.nm j, some "__init__"), "__init__", C.nm j ++ ".__init__", defArgs (C.st j), defBody (C.st j), defScope (C.st j), [], []⟩
def iniL : List Nat := (List.range nc).filter fun j => !(C.fl j).isEmpty
def fn : List He.DefD := (List.range nd).map dDef ++ iniL.map dIni
def fa : List He.Fa := (List.range nd).map (fun j => He.Fa.glo (T.nm j)) ++ (List.range nc).map (fun j => He.Fa.glo (C.nm j)) ++ freeL.map He.Fa.free ++ [He.Fa.str ("LETTERS" : Str) ("abcdefghijklmnopqrstuvwxyz" : Str), He.Fa.glo ("TURNS" : Str)]
def kv_TURNS : List (Str × He.Dv) := [(("up" : Str), He.Dv.str ("down" : Str)), (("down" : Str), He.Dv.str ("up" : Str)), (("both" : Str), He.Dv.str ("else" : Str)), (("else" : Str), He.Dv.str ("both" : Str))]
def ts : List He.Tab := [(fun K => He.ga K ("TURNS" : Str), kv_TURNS.map (·.1))]
def tf : List He.Defn := [(("_law_parts_asked" : Str), none), (("law" : Str), none)]
def ex (K : PySem.W.Frag) : Bool := (List.range nc).all (fun j => clsB K (He.ga K (C.nm 0)) (He.ga K (C.nm j)) (C.fl j)) && decide ((List.range nc).map fun j => He.ga K (C.nm j)).Nodup && tf.all (fun p => match K.lookup (He.fAd K p) with | some ⟨_, _, .func fd, _⟩ => (match fd.code with | .ref _ => true | _ => false) | _ => false) && decide (tf.map fun p => (He.cT K p).2).Nodup && He.valsB K (He.ga K ("TURNS" : Str)) kv_TURNS
abbrev R : PySem.W.OpenRow := PySem.W.OpenLaw.row PySem.Challenge.rw_tiedproofs_k01_whole_formulas
abbrev hk : PySem.W.Hook := hookW fa fn ts tf ex
def ob (s : PySem.W.SharedT) : He.AlX := obsW fa fn ts tf ex (HandSHeadRun.getT s)
theorem ob_eq (s : PySem.W.SharedT) : ob s = hk.obs s.abs := obsW_eq (HandSHeadRun.getT_eq s)
def loose : List Str := ([("ProofError" : Str), ("BadFormula" : Str), ("BadPart" : Str), ("BadPlace" : Str), ("is_integer" : Str), ("is_number" : Str), ("is_list" : Str), ("is_row" : Str), ("is_text" : Str), ("is_letters" : Str), ("is_word" : Str), ("is_atom" : Str), ("is_formula" : Str), ("as_formula" : Str), ("need_formula" : Str), ("turned_of" : Str), ("turned" : Str), ("atoms_in" : Str), ("atoms_of" : Str), ("size_of" : Str), ("depth_in" : Str), ("depth_of" : Str), ("words_of" : Str), ("all_places" : Str), ("places_of" : Str), ("is_place_of" : Str), ("at_place" : Str), ("need_place" : Str), ("part_of" : Str), ("with_part" : Str)] : List Str) ++ ([("put_at" : Str), ("_law_start" : Str), ("_law_pick" : Str), ("_law_one" : Str), ("_law_mixed" : Str), ("_law_same" : Str), ("_law_copy" : Str), ("_law_loose" : Str), ("_law_spoil" : Str), ("_law_free_word" : Str), ("_law_words" : Str), ("_law_word_set" : Str), ("_law_draw_formula" : Str), ("_law_is_atom" : Str), ("_law_turned" : Str), ("_law_is_formula" : Str), ("_law_is_word" : Str), ("_law_atoms" : Str), ("_law_places_in" : Str), ("_law_part_of" : Str), ("_law_put" : Str), ("_law_told" : Str), ("_law_depth" : Str), ("_law_bent" : Str), ("_law_parts_asked" : Str), ("LETTERS" : Str), ("TURNS" : Str)] : List Str)
theorem runs0 (w : World) : HandSHeadRun.RunEq R (PySem.W.view R.prog [62]) hk ob 24000 loose (w.withFollow "special-get-raises" false) := by
  intro os
  kernel_rfl
theorem runs1 (w : World) : HandSHeadRun.RunEq R (PySem.W.view R.prog [62]) hk ob 24000 loose (w.withFollow "special-get-raises" true) := by
  intro os
  kernel_rfl
theorem runs (w : World) : HandSHeadRun.RunEq R (PySem.W.view R.prog [62]) hk ob 24000 loose w := PySem.W.byRow2 "special-get-raises" (P := fun w => HandSHeadRun.RunEq R (PySem.W.view R.prog [62]) hk ob 24000 loose w) runs0 runs1 w
end K01
end

section
set_option Elab.async false
set_option linter.all false
set_option autoImplicit false
set_option maxRecDepth 100000
/-! VI, 1: data without a heap, and how a heap bears it -/
namespace VI
open PySem PySem.Spec L2

/-- data -/
inductive D where
  | non | bl (b : Bool) | int (i : Int) | str (x : Str)
  | lst (xs : List D) | tup (xs : List D)
  | dct (t : Bool) (ks vs : List D)
  | cell (n : Nat)
  | fn (j : Nat)
  | scr (ns : List Int)
  | exc (j : Nat) (xs : List D)
  deriving Inhabited
def keyD : Key → D
  | .inl i => .int i
  | .inr x => .str x
inductive Cell where
  | lst (xs : List D)
  | dct (t : Bool) (ks vs : List D)
def Cell.d : Cell → D
  | .lst xs => .lst xs
  | .dct t ks vs => .dct t ks vs
abbrev Store := List Cell
def isTup : HO → Prop
  | .tup _ => True
  | _ => False
def isMut : HO → Prop
  | .lst _ => True
  | .dK _ => True
  | .dT _ => True
  | _ => False
def isDct : HO → Prop
  | .dK _ => True
  | .dT _ => True
  | _ => False
/-- no table of code objects -/
def NT (o : HO) : Prop := ∀ ps, o ≠ .tbl ps
theorem mut_nt {o : HO} (h : isMut o) : NT o := fun ps e => by rw [e] at h; exact h
theorem tup_nt {o : HO} (h : isTup o) : NT o := fun ps e => by rw [e] at h; exact h
def isDat : HO → Prop
  | .lst _ => True
  | .tup _ => True
  | .dK _ => True
  | .dT _ => True
  | _ => False
theorem dat_nt {o : HO} (h : isDat o) : NT o := fun ps e => by rw [e] at h; exact h
/-- an exception object, held; its dict -/
def isXO : HO → Prop
  | .ext _ => True
  | .xd _ => True
  | _ => False
theorem mut_xo {o : HO} (h : isMut o) (h' : isXO o) : False := by cases o <;> first | exact h | exact h'
theorem xo_nt {o : HO} (h : isXO o) : NT o := fun ps e => by rw [e] at h; exact h
/-- an exception object of the class cls with the dict d, at a -/
def ExV (cls : Value) (d : Option Addr) (a : Addr) : HO := .ext fun h => ∃ (oe : Obj) (vs : Array Value), h.get? a = some oe ∧ Zc cls d oe ∧ oe.data = .fields vs
/-- .. held, or caught and kept as it stands -/
def ExH (H : Hp) (a : Addr) (cls : Value) (d : Option Addr) : Prop := H a = some (ExV cls d a) ∨ ∃ oe, H a = some (.frz oe (ExV cls d a))
/-- the globals: values by number, exception classes by number (address, fields), the tables of code objects, the dicts that may be locked -/
structure Gv where
  f : Nat → Option V
  x : Nat → Option (Addr × List Str)
  T : List (Addr × Str)
  lk : Addr → Prop
  q : Addr → List Int → Prop
/-- at a stands o (a dict: it may be locked) -/
def At (H : Hp) (a : Addr) (o : HO) : Prop := H a = some o ∨ (isDct o ∧ ∃ ob, H a = some (.frz ob o))
theorem At.lst {H : Hp} {a : Addr} {vs : List V} (h : At H a (.lst vs)) : H a = some (.lst vs) := h.elim id fun z => z.1.elim
theorem At.tup {H : Hp} {a : Addr} {vs : List V} (h : At H a (.tup vs)) : H a = some (.tup vs) := h.elim id fun z => z.1.elim
theorem At.rd {H : Hp} {a : Addr} {o : HO} (h : At H a o) : Rd H a o := h.imp id fun z => z.2
theorem mut_tup {o : HO} (h : isMut o) (h' : isTup o) : False := by cases o <;> first | exact h | exact h'

section
variable (gv : Gv) (H : Hp) (Z : Addr → Prop) (c : List Addr)
mutual
inductive Rep : V → D → Prop
  | non : Rep .non .non
  | bl (b : Bool) : Rep (.bl b) (.bl b)
  | int (i : Int) : Rep (.int i) (.int i)
  | str (x : Str) : Rep (.str x) (.str x)
  | obj {a : Addr} {o : HO} {d : D} : At H a o → (Z a ∨ isTup o) → Bd o d → Rep (.ref a) d
  | cell {n : Nat} {a : Addr} : c[n]? = some a → Rep (.ref a) (.cell n)
  | fn {j : Nat} {v : V} : gv.f j = some v → Rep v (.fn j)
  | exc0 {j : Nat} {a C : Addr} : gv.x j = some (C, []) → ExH H a (.ref C) none → Rep (.ref a) (.exc j [])
  | exc1 {j : Nat} {a C p : Addr} {fs : List Str} {vs : List V} {ds : List D} : gv.x j = some (C, fs) → ExH H a (.ref C) (some p) → H p = some (.xd (fs.zip vs)) → vs.length = fs.length → Reps vs ds → Rep (.ref a) (.exc j ds)
  | scr {a : Addr} {o : Obj} {ns : List Int} : H a = some (.frz o (.lst (ns.map V.int))) → Rep (.ref a) (.scr ns)
  | scrK {a : Addr} {ns : List Int} : gv.q a ns → Rep (.ref a) (.scr ns)
  | scrZ {a : Addr} {ns : List Int} : H a = some (.lst (ns.map V.int)) → Z a → Rep (.ref a) (.scr ns)
inductive Reps : List V → List D → Prop
  | nil : Reps [] []
  | cons {v : V} {d : D} {vs : List V} {ds : List D} : Rep v d → Reps vs ds → Reps (v :: vs) (d :: ds)
inductive Bd : HO → D → Prop
  | lst {vs : List V} {ds : List D} : Reps vs ds → Bd (.lst vs) (.lst ds)
  | tup {vs : List V} {ds : List D} : Reps vs ds → Bd (.tup vs) (.tup ds)
  | dK {kvs : List (Key × V)} {ks vs : List D} : ks = kvs.map (fun p => keyD p.1) → Reps (kvs.map (·.2)) vs → Bd (.dK kvs) (.dct false ks vs)
  | dT {kvs : List (List Key × V)} {ks vs : List D} : ks = kvs.map (fun p => D.tup (p.1.map keyD)) → Reps (kvs.map (·.2)) vs → Bd (.dT kvs) (.dct true ks vs)
end
end

variable {gv : Gv}

/-- what data leans on stays -/
structure Grow (H : Hp) (Z : Addr → Prop) (c : List Addr) (H' : Hp) (Z' : Addr → Prop) (c' : List Addr) : Prop where
  zk : ∀ a o, At H a o → (Z a ∨ isTup o) → isDat o → At H' a o
  fz : ∀ a o u, H a = some (.frz o u) → ¬ isDct u → H' a = some (.frz o u)
  xk : ∀ a o, H a = some o → isXO o → H' a = some o
  zz : ∀ a, Z a → Z' a
  cc : ∀ (n : Nat) a, c[n]? = some a → c'[n]? = some a
section
variable {H H' : Hp} {Z Z' : Addr → Prop} {c c' : List Addr}
theorem ExH.mono (g : Grow H Z c H' Z' c') {a : Addr} {cls : Value} {d : Option Addr} (h : ExH H a cls d) : ExH H' a cls d :=
  h.imp (fun h => g.xk _ _ h trivial) fun ⟨oe, h⟩ => ⟨oe, g.fz _ _ _ h id⟩
mutual
theorem Rep.mono (g : Grow H Z c H' Z' c') : ∀ {v : V} {d : D}, Rep gv H Z c v d → Rep gv H' Z' c' v d
  | _, _, .non => .non
  | _, _, .bl b => .bl b
  | _, _, .int i => .int i
  | _, _, .str x => .str x
  | _, _, .obj h z b => .obj (g.zk _ _ h z (by cases b <;> trivial)) (z.imp (g.zz _) id) (Bd.mono g b)
  | _, _, .cell h => .cell (g.cc _ _ h)
  | _, _, .fn h => .fn h
  | _, _, .exc0 h1 h2 => .exc0 h1 (h2.mono g)
  | _, _, .exc1 h1 h2 h3 h4 h5 => .exc1 h1 (h2.mono g) (g.xk _ _ h3 trivial) h4 (Reps.mono g h5)
  | _, _, .scr h => .scr (g.fz _ _ _ h id)
  | _, _, .scrK h => .scrK h
  | _, _, .scrZ h z => .scrZ (g.zk _ _ (.inl h) (.inl z) trivial).lst (g.zz _ z)
theorem Reps.mono (g : Grow H Z c H' Z' c') : ∀ {vs : List V} {ds : List D}, Reps gv H Z c vs ds → Reps gv H' Z' c' vs ds
  | _, _, .nil => .nil
  | _, _, .cons r t => .cons (Rep.mono g r) (Reps.mono g t)
theorem Bd.mono (g : Grow H Z c H' Z' c') : ∀ {o : HO} {d : D}, Bd gv H Z c o d → Bd gv H' Z' c' o d
  | _, _, .lst r => .lst (Reps.mono g r)
  | _, _, .tup r => .tup (Reps.mono g r)
  | _, _, .dK e r => .dK e (Reps.mono g r)
  | _, _, .dT e r => .dT e (Reps.mono g r)
end
theorem Grow.refl : Grow H Z c H Z c := ⟨fun _ _ h _ _ => h, fun _ _ _ h _ => h, fun _ _ h _ => h, fun _ h => h, fun _ _ h => h⟩
theorem Reps.length : ∀ {vs : List V} {ds : List D}, Reps gv H Z c vs ds → vs.length = ds.length
  | _, _, .nil => rfl
  | _, _, .cons _ t => congrArg (· + 1) (Reps.length t)
theorem Reps.append : ∀ {vs ws : List V} {ds es : List D}, Reps gv H Z c vs ds → Reps gv H Z c ws es → Reps gv H Z c (vs ++ ws) (ds ++ es)
  | _, _, _, _, .nil, s => s
  | _, _, _, _, .cons r t, s => .cons r (Reps.append t s)
theorem Reps.get : ∀ {vs : List V} {ds : List D} {i : Nat} {d : D}, Reps gv H Z c vs ds → ds[i]? = some d → ∃ v, vs[i]? = some v ∧ Rep gv H Z c v d
  | _, _, _, _, .nil, e => by simp at e
  | _, _, 0, _, .cons r _, e => by simp at e; subst e; exact ⟨_, rfl, r⟩
  | _, _, i + 1, _, .cons _ t, e => by
    obtain ⟨v, h1, h2⟩ := Reps.get (i := i) t (by simpa using e)
    exact ⟨v, by simpa using h1, h2⟩
theorem Reps.getV : ∀ {vs : List V} {ds : List D} {i : Nat} {v : V}, Reps gv H Z c vs ds → vs[i]? = some v → ∃ d, ds[i]? = some d ∧ Rep gv H Z c v d
  | _, _, _, _, .nil, e => by simp at e
  | _, _, 0, _, .cons r _, e => by simp at e; subst e; exact ⟨_, rfl, r⟩
  | _, _, i + 1, _, .cons _ t, e => by
    obtain ⟨v, h1, h2⟩ := Reps.getV (i := i) t (by simpa using e)
    exact ⟨v, by simpa using h1, h2⟩
theorem Reps.set {v : V} {d : D} (r : Rep gv H Z c v d) : ∀ {vs : List V} {ds : List D} (i : Nat), Reps gv H Z c vs ds → Reps gv H Z c (vs.set i v) (ds.set i d)
  | _, _, _, .nil => .nil
  | _, _, 0, .cons _ t => .cons r t
  | _, _, i + 1, .cons q t => .cons q (Reps.set r i t)
theorem Reps.take : ∀ {vs : List V} {ds : List D} (n : Nat), Reps gv H Z c vs ds → Reps gv H Z c (vs.take n) (ds.take n)
  | _, _, 0, _ => .nil
  | _, _, _ + 1, .nil => .nil
  | _, _, n + 1, .cons r t => .cons r (Reps.take n t)
theorem Reps.drop : ∀ {vs : List V} {ds : List D} (n : Nat), Reps gv H Z c vs ds → Reps gv H Z c (vs.drop n) (ds.drop n)
  | _, _, 0, r => r
  | _, _, _ + 1, .nil => .nil
  | _, _, n + 1, .cons _ t => Reps.drop n t
theorem Reps.eraseIdx : ∀ {vs : List V} {ds : List D} (i : Nat), Reps gv H Z c vs ds → Reps gv H Z c (vs.eraseIdx i) (ds.eraseIdx i)
  | _, _, _, .nil => .nil
  | _, _, 0, .cons _ t => t
  | _, _, i + 1, .cons q t => .cons q (Reps.eraseIdx i t)
theorem Reps.reverse {vs : List V} {ds : List D} (h : Reps gv H Z c vs ds) : Reps gv H Z c vs.reverse ds.reverse := by
  induction vs generalizing ds with
  | nil => cases h; exact .nil
  | cons v vs ih => cases h with
    | cons r t => rw [List.reverse_cons, List.reverse_cons]; exact (ih t).append (.cons r .nil)
theorem Reps.dropLast {vs : List V} {ds : List D} (h : Reps gv H Z c vs ds) : Reps gv H Z c vs.dropLast ds.dropLast := by
  rw [List.dropLast_eq_take, List.dropLast_eq_take, h.length]
  exact h.take _
end

/-- one step of an expression, or of a whole def: what was tracked stays, but the cells -/
structure Adv (pu : Bool) (H : Hp) (Z : Addr → Prop) (c : List Addr) (H' : Hp) (Z' : Addr → Prop) (c' : List Addr) : Prop where
  keep : ∀ a o, H a = some o → (pu = true ∨ a ∉ c) → NT o → H' a = some o
  zz : ∀ a, Z a → Z' a
  zn : ∀ a, Z' a → Z a ∨ H a = none
  cn : ∃ n, c' = c ++ n ∧ ∀ a ∈ n, H a = none
  tr : ∀ a o, H a = some o → ∃ o', H' a = some o'
/-- at a stands o; a dict of lk may be locked -/
def Ul (lk : Addr → Prop) (H : Hp) (a : Addr) (o : HO) : Prop := H a = some o ∨ (lk a ∧ isDct o ∧ ∃ ob, H a = some (.frz ob o))
theorem Ul.at' {lk : Addr → Prop} {H : Hp} {a : Addr} {o : HO} (h : Ul lk H a o) : At H a o := h.imp id fun z => z.2
theorem Ul.get {lk : Addr → Prop} {H : Hp} {a : Addr} {o : HO} (h : Ul lk H a o) (hm : isMut o) : ∃ w, H a = some w ∧ NT w ∧ ¬ isTup w ∧ ¬ isXO w ∧ ∀ ob u, w = .frz ob u → isDct u := by
  rcases h with h | ⟨_, hd, ob, h⟩
  · exact ⟨_, h, mut_nt hm, fun z => mut_tup hm z, fun z => mut_xo hm z, fun ob u e => by subst e; exact hm.elim⟩
  · exact ⟨_, h, fun ps e => (by cases e), id, id, fun ob' u e => (by cases e; exact hd)⟩
theorem Ul.keep {lk : Addr → Prop} {H H' : Hp} {a : Addr} {o : HO} (h : Ul lk H a o) (k : ∀ w, H a = some w → H' a = some w) : Ul lk H' a o := h.imp (k _) fun ⟨z, hd, ob, e⟩ => ⟨z, hd, ob, k _ e⟩
theorem Ul.un {lk : Addr → Prop} {H : Hp} {a : Addr} {o : HO} (h : Ul lk H a o) (hl : ∀ a, ¬ lk a) : H a = some o := h.elim id fun z => (hl a z.1).elim
/-- the tables of code objects: those of T -/
def Tabx (T : List (Addr × Str)) (H : Hp) : Prop := LamX.Tabs T H ∧ True
theorem Tabx.new {T : List (Addr × Str)} {H : Hp} {p : Addr} {o : HO} (t : Tabx T H) (hp : H p = none) (no : NT o) : Tabx T (upd H p o) :=
  ⟨t.1.ext fun b u h => by rw [upd_ne (ne_of_none h hp)]; exact h, trivial⟩
structure StoreOk (gv : Gv) (H : Hp) (Z : Addr → Prop) (c : List Addr) (S : Store) : Prop where
  len : c.length = S.length
  nd : c.Nodup
  ok : ∀ (n : Nat) a, c[n]? = some a → ∃ s o, S[n]? = some s ∧ Ul gv.lk H a o ∧ isMut o ∧ Bd gv H Z c o s.d ∧ ¬ Z a
  zt : ∀ a, Z a → ∃ o, H a = some o
  tb : Tabx gv.T H
section
variable {pu : Bool} {H H1 H' : Hp} {Z Z1 Z' : Addr → Prop} {c c1 c' : List Addr} {S S' : Store}
theorem Adv.refl : Adv pu H Z c H Z c := ⟨fun _ _ h _ _ => h, fun _ h => h, fun _ h => .inl h, ⟨[], by simp, by simp⟩, fun _ o h => ⟨o, h⟩⟩
theorem Adv.untr (a : Adv pu H Z c H' Z' c') {x : Addr} (h : H' x = none) : H x = none := by
  cases e : H x with
  | none => rfl
  | some o => obtain ⟨o', q⟩ := a.tr x o e; rw [h] at q; cases q
theorem Adv.trans (a : Adv pu H Z c H1 Z1 c1) (b : Adv pu H1 Z1 c1 H' Z' c') : Adv pu H Z c H' Z' c' := by
  obtain ⟨n, e, hn⟩ := a.cn
  obtain ⟨n', e', hn'⟩ := b.cn
  refine ⟨fun x o h hx nt => b.keep x o (a.keep x o h hx nt) (hx.imp id fun hx => ?_) nt, fun x h => b.zz x (a.zz x h), fun x h => ?_, ⟨n ++ n', by rw [e', e, List.append_assoc], fun x hx => ?_⟩, fun x o h => ?_⟩
  · rw [e, List.mem_append]
    rintro (z | z)
    · exact hx z
    · rw [hn x z] at h; cases h
  · rcases b.zn x h with z | z
    · exact a.zn x z
    · exact .inr (a.untr z)
  · rcases List.mem_append.mp hx with z | z
    · exact hn x z
    · exact a.untr (hn' x z)
  · obtain ⟨o1, q⟩ := a.tr x o h
    exact b.tr x o1 q
theorem StoreOk.notin (s : StoreOk gv H Z c S) {a : Addr} {o : HO} (h : H a = some o) (hz : Z a ∨ isTup o) : a ∉ c := fun hm => by
  obtain ⟨n, e⟩ := List.getElem?_of_mem hm
  obtain ⟨_, o', _, h', hm', _, nz⟩ := s.ok n a e
  obtain ⟨w, hw, _, n1, _, _⟩ := h'.get hm'
  rw [h] at hw; cases hw
  rcases hz with z | z
  · exact nz z
  · exact n1 z
theorem StoreOk.notfrz (s : StoreOk gv H Z c S) {a : Addr} {o : Obj} {u : HO} (h : H a = some (.frz o u)) (hz : Z a ∨ ¬ isDct u) : a ∉ c := fun hm => by
  obtain ⟨n, e⟩ := List.getElem?_of_mem hm
  obtain ⟨_, o', _, h', hm', _, nz⟩ := s.ok n a e
  obtain ⟨w, hw, _, _, _, n1⟩ := h'.get hm'
  rw [h] at hw; cases hw
  rcases hz with z | z
  · exact nz z
  · exact z (n1 _ _ rfl)
theorem StoreOk.notxo (s : StoreOk gv H Z c S) {a : Addr} {o : HO} (h : H a = some o) (hx : isXO o) : a ∉ c := fun hm => by
  obtain ⟨n, e⟩ := List.getElem?_of_mem hm
  obtain ⟨_, o', _, h', hm', _, nz⟩ := s.ok n a e
  obtain ⟨w, hw, _, _, n1, _⟩ := h'.get hm'
  rw [h] at hw; cases hw
  exact n1 hx
theorem StoreOk.ne (s : StoreOk gv H Z c S) {n : Nat} {a p : Addr} (e : c[n]? = some a) (hp : H p = none) : a ≠ p := fun z => by
  obtain ⟨_, o', _, h', hm', _⟩ := s.ok n a e
  obtain ⟨w, hw, _⟩ := h'.get hm'
  rw [z, hp] at hw; cases hw
theorem bd_nt {o : HO} {d : D} (h : Bd gv H Z c o d) : NT o := fun ps e => by subst e; cases h
theorem Adv.grow (a : Adv pu H Z c H' Z' c') (s : StoreOk gv H Z c S) : Grow H Z c H' Z' c' := by
  obtain ⟨n, e, hn⟩ := a.cn
  refine ⟨fun x o h hz nt => h.elim (fun h => .inl (a.keep x o h (.inr (s.notin h hz)) (dat_nt nt))) fun ⟨hd, ob, h⟩ => .inr ⟨hd, ob, a.keep x _ h (.inr (s.notfrz h (.inl (hz.elim id fun z => by cases o <;> first | exact z.elim | exact hd.elim)))) (fun ps e => by cases e)⟩,
    fun x o u h nd => a.keep x _ h (.inr (s.notfrz h (.inr nd))) (fun ps e => by cases e), fun x o h hx => a.keep x o h (.inr (s.notxo h hx)) (xo_nt hx), a.zz, fun i x h => ?_⟩
  rw [e, List.getElem?_append_left (List.getElem?_eq_some_iff.mp h).1]
  exact h
/-- a new object -/
theorem Adv.new {p : Addr} {o : HO} (hp : H p = none) : Adv pu H Z c (upd H p o) Z c :=
  ⟨fun a u h _ _ => by rw [upd_ne (ne_of_none h hp)]; exact h, fun _ h => h, fun _ h => .inl h, ⟨[], by simp, by simp⟩, fun a u h => ⟨u, by rw [upd_ne (ne_of_none h hp)]; exact h⟩⟩
/-- a new object, kept from now on -/
theorem Adv.newZ {p : Addr} {o : HO} (hp : H p = none) : Adv pu H Z c (upd H p o) (fun a => Z a ∨ a = p) c :=
  ⟨fun a u h _ _ => by rw [upd_ne (ne_of_none h hp)]; exact h, fun _ h => .inl h, fun _ h => h.imp id fun e => by rw [e]; exact hp, ⟨[], by simp, by simp⟩, fun a u h => ⟨u, by rw [upd_ne (ne_of_none h hp)]; exact h⟩⟩
theorem StoreOk.step (s : StoreOk gv H Z c S) (a : Adv pu H Z c H' Z' c) (k : ∀ x ∈ c, ∀ o, H x = some o → H' x = some o) (zt : ∀ x, Z' x → ∃ o, H' x = some o) (tb : Tabx gv.T H') : StoreOk gv H' Z' c S := by
  refine ⟨s.len, s.nd, fun n x e => ?_, zt, tb⟩
  obtain ⟨sc, o, h1, h2, h3, h4, h5⟩ := s.ok n x e
  refine ⟨sc, o, h1, h2.keep (k x (List.mem_of_getElem? e)), h3, h4.mono (a.grow s), fun z => ?_⟩
  rcases a.zn x z with z | z
  · exact h5 z
  · obtain ⟨w, hw, _⟩ := h2.get h3
    rw [hw] at z; cases z
theorem StoreOk.new {p : Addr} {o : HO} (s : StoreOk gv H Z c S) (hp : H p = none) (no : NT o := by intro ps e; cases e) : StoreOk gv (upd H p o) Z c S :=
  s.step (pu := true) (Adv.new hp) (fun x _ u h => by rw [upd_ne (ne_of_none h hp)]; exact h) (fun x z => by
    obtain ⟨u, h⟩ := s.zt x z
    exact ⟨u, by rw [upd_ne (ne_of_none h hp)]; exact h⟩) (s.tb.new hp no)
theorem StoreOk.newZ {p : Addr} {o : HO} (s : StoreOk gv H Z c S) (hp : H p = none) (no : NT o := by intro ps e; cases e) : StoreOk gv (upd H p o) (fun a => Z a ∨ a = p) c S :=
  s.step (pu := true) (Adv.newZ hp) (fun x _ u h => by rw [upd_ne (ne_of_none h hp)]; exact h) (fun x z => by
    rcases z with z | z
    · obtain ⟨u, h⟩ := s.zt x z
      exact ⟨u, by rw [upd_ne (ne_of_none h hp)]; exact h⟩
    · exact ⟨o, by rw [z, upd_same]⟩) (s.tb.new hp no)
/-- an object of our own is kept from now on -/
theorem StoreOk.zadd {p : Addr} {o : HO} (s : StoreOk gv H Z c S) (hp : H p = some o) (hc : p ∉ c) : StoreOk gv H (fun a => Z a ∨ a = p) c S := by
  have g : Grow H Z c H (fun a => Z a ∨ a = p) c := ⟨fun _ _ h _ _ => h, fun _ _ _ h _ => h, fun _ _ h _ => h, fun _ h => .inl h, fun _ _ h => h⟩
  refine ⟨s.len, s.nd, fun n x e => ?_, fun x z => ?_, s.tb⟩
  · obtain ⟨sc, o, h1, h2, h3, h4, h5⟩ := s.ok n x e
    refine ⟨sc, o, h1, h2, h3, h4.mono g, fun z => ?_⟩
    rcases z with z | z
    · exact h5 z
    · exact hc (z ▸ List.mem_of_getElem? e)
  · rcases z with z | z
    · exact s.zt x z
    · exact ⟨o, by rw [z]; exact hp⟩
theorem Adv.zadd {p : Addr} (a : Adv pu H Z c H' Z' c') (hp : H p = none) : Adv pu H Z c H' (fun a => Z' a ∨ a = p) c' :=
  ⟨a.keep, fun x h => .inl (a.zz x h), fun x h => by
    rcases h with h | h
    · exact a.zn x h
    · exact .inr (by rw [h]; exact hp), a.cn, a.tr⟩
end

theorem tabs_mut {T : List (Addr × Str)} {H : Hp} {p : Addr} {o u : HO} (t : Tabx T H) (hp : H p = some u) (hm : isMut u) (no : NT o) : Tabx T (upd H p o) := ⟨fun q hq => by
  obtain ⟨ps, h1, h2, h3⟩ := t.1 q hq
  have n1 : q.1 ≠ p := fun e => by rw [e, hp] at h1; cases h1; exact hm
  refine ⟨ps, by rw [upd_ne n1]; exact h1, h2, fun pos cv hc => ?_⟩
  obtain ⟨c, e1, e2⟩ := h3 pos cv hc
  have n2 : c ≠ p := fun e => by rw [e, hp] at e2; cases e2; exact hm
  exact ⟨c, e1, by rw [upd_ne n2]; exact e2⟩, trivial⟩

/-- what walked things lean on stays -/
def Go (pu : Bool) (H : Hp) (Z : Addr → Prop) (c : List Addr) (H' : Hp) (Z' : Addr → Prop) (c' : List Addr) : Prop := Grow H Z c H' Z' c' ∧ (pu = true → ∀ a ∈ c, ∀ o, H a = some o → H' a = some o) ∧ ∀ a o, Z a → H a = some o → NT o → H' a = some o
section
variable {pu : Bool} {H H1 H' : Hp} {Z Z1 Z' : Addr → Prop} {c c1 c' : List Addr} {S S' : Store}
theorem Grow.trans (a : Grow H Z c H1 Z1 c1) (b : Grow H1 Z1 c1 H' Z' c') : Grow H Z c H' Z' c' :=
  ⟨fun x o h z nt => b.zk x o (a.zk x o h z nt) (z.imp (a.zz x) id) nt, fun x o u h nd => b.fz x o u (a.fz x o u h nd) nd, fun x o h xo => b.xk x o (a.xk x o h xo) xo, fun x z => b.zz x (a.zz x z), fun n x h => b.cc n x (a.cc n x h)⟩
theorem Go.refl : Go pu H Z c H Z c := ⟨Grow.refl, fun _ _ _ _ h => h, fun _ _ _ h _ => h⟩
theorem Go.trans (a : Go pu H Z c H1 Z1 c1) (b : Go pu H1 Z1 c1 H' Z' c') : Go pu H Z c H' Z' c' :=
  ⟨a.1.trans b.1, fun p x hx o h => by
    obtain ⟨n, e⟩ := List.getElem?_of_mem hx
    exact b.2.1 p x (List.mem_of_getElem? (a.1.cc n x e)) o (a.2.1 p x hx o h), fun x o z h nt => b.2.2 x o (a.1.zz x z) (a.2.2 x o z h nt) nt⟩
theorem Adv.go (a : Adv pu H Z c H' Z' c') (s : StoreOk gv H Z c S) : Go pu H Z c H' Z' c' := ⟨a.grow s, fun p x hx o h => by
  obtain ⟨n, e⟩ := List.getElem?_of_mem hx
  obtain ⟨_, o', _, h', hm, _⟩ := s.ok n x e
  obtain ⟨w, hw, nt, _⟩ := h'.get hm
  rw [h] at hw; cases hw
  exact a.keep x o h (.inl p) nt, fun x o z h nt => a.keep x o h (.inr (s.notin h (.inl z))) nt⟩
theorem Grow.go (g : Grow H Z c H Z1 c) : Go pu H Z c H Z1 c := ⟨g, fun _ _ _ _ h => h, fun _ _ _ h _ => h⟩
end

/-! ### the slots of a def -/
inductive Md where
  | x | z | o
  deriving DecidableEq
/-- the entry; P: what else is to be kept (a walked list, say) -/
structure Ent (pu : Bool) where
  H : Hp
  Z : Addr → Prop
  c : List Addr
  P : Hp → (Addr → Prop) → List Addr → Prop
  pm : ∀ H Z c H' Z' c', Go pu H Z c H' Z' c' → P H Z c → P H' Z' c'
structure Rst (gv : Gv) (pu : Bool) (E : Ent pu) (m : List Md) (δ : List (Option D)) (S : Store) (Z : Addr → Prop) (c : List Addr) (σ : St) (H : Hp) : Prop where
  st : StoreOk gv H Z c S
  adv : Adv pu E.H E.Z E.c H Z c
  an : E.P H Z c
  lm : m.length = σ.length
  ld : δ.length = σ.length
  zs : ∀ (i : Nat) d, m[i]? = some .z → δ[i]? = some (some d) → ∃ v, σ[i]? = some (some v) ∧ Rep gv H Z c v d
  os : ∀ i : Nat, m[i]? = some .o → ∃ d a o, δ[i]? = some (some d) ∧ σ[i]? = some (some (.ref a)) ∧ H a = some o ∧ isMut o ∧ Bd gv H Z c o d ∧ ¬ Z a ∧ a ∉ c ∧ E.H a = none
  ds : ∀ (i j : Nat) a, i ≠ j → m[i]? = some .o → m[j]? = some .o → σ[i]? = some (some (.ref a)) → σ[j]? ≠ some (some (.ref a))
section
variable {pu : Bool} {E : Ent pu} {H H' : Hp} {Z Z' : Addr → Prop} {c c' : List Addr} {S S' : Store} {m : List Md} {δ : List (Option D)} {σ : St}
theorem Rst.step (r : Rst gv pu E m δ S Z c σ H) (a : Adv pu H Z c H' Z' c') (s : StoreOk gv H' Z' c' S') : Rst gv pu E m δ S' Z' c' σ H' := by
  have g := a.grow r.st
  refine ⟨s, r.adv.trans a, E.pm _ _ _ _ _ _ (a.go r.st) r.an, r.lm, r.ld, fun i d h1 h2 => ?_, fun i h => ?_, r.ds⟩
  · obtain ⟨v, h3, h4⟩ := r.zs i d h1 h2
    exact ⟨v, h3, h4.mono g⟩
  · obtain ⟨d, x, o, h1, h2, h3, h4, h5, h6, h7, h8⟩ := r.os i h
    refine ⟨d, x, o, h1, h2, a.keep x o h3 (.inr h7) (mut_nt h4), h4, h5.mono g, fun z => ?_, ?_, h8⟩
    · rcases a.zn x z with z | z
      · exact h6 z
      · rw [h3] at z; cases z
    · obtain ⟨n, e, hn⟩ := a.cn
      rw [e, List.mem_append]
      rintro (z | z)
      · exact h7 z
      · rw [hn x z] at h3; cases h3
theorem getElem?_set' {α : Type} {l : List α} {i j : Nat} {a b : α} (h : (l.set i a)[j]? = some b) : (i = j ∧ a = b ∧ i < l.length) ∨ (i ≠ j ∧ l[j]? = some b) := by
  by_cases e : i = j
  · subst e
    by_cases hl : i < l.length
    · rw [List.getElem?_set_self hl] at h
      exact .inl ⟨rfl, Option.some.inj h, hl⟩
    · rw [List.getElem?_eq_none (by simpa using hl)] at h; cases h
  · rw [List.getElem?_set_ne e] at h
    exact .inr ⟨e, h⟩
theorem Rst.setZ (r : Rst gv pu E m δ S Z c σ H) {i : Nat} {v : V} {d : D} (hi : i < σ.length) (rv : Rep gv H Z c v d) : Rst gv pu E (m.set i .z) (δ.set i (some d)) S Z c (σ.set i (some v)) H := by
  refine ⟨r.st, r.adv, r.an, by simpa using r.lm, by simpa using r.ld, fun j e h1 h2 => ?_, fun j h => ?_, fun j k a ne h1 h2 h3 h4 => ?_⟩
  · by_cases hj : i = j
    · subst hj
      rw [List.getElem?_set_self (by rw [r.ld]; exact hi)] at h2
      cases h2
      exact ⟨v, by rw [List.getElem?_set_self hi], rv⟩
    · rw [List.getElem?_set_ne hj] at h1 h2
      obtain ⟨w, h3, h4⟩ := r.zs j e h1 h2
      exact ⟨w, by rw [List.getElem?_set_ne hj]; exact h3, h4⟩
  · rcases getElem?_set' h with ⟨_, q, _⟩ | ⟨ne, q⟩
    · cases q
    · obtain ⟨e, a, o, h1, h2, h3⟩ := r.os j q
      exact ⟨e, a, o, by rw [List.getElem?_set_ne ne]; exact h1, by rw [List.getElem?_set_ne ne]; exact h2, h3⟩
  · rcases getElem?_set' h1 with ⟨_, q, _⟩ | ⟨n1, q1⟩
    · cases q
    · rcases getElem?_set' h2 with ⟨_, q, _⟩ | ⟨n2, q2⟩
      · cases q
      · rw [List.getElem?_set_ne n1] at h3
        rw [List.getElem?_set_ne n2] at h4
        exact r.ds j k a ne q1 q2 h3 h4
theorem Rst.setO (r : Rst gv pu E m δ S Z c σ H) {i : Nat} {a : Addr} {o : HO} {d : D} (hi : i < σ.length) (h : H a = some o) (hm : isMut o) (hb : Bd gv H Z c o d) (hz : ¬ Z a) (hc : a ∉ c) (hE : E.H a = none)
    (hf : ∀ j : Nat, i ≠ j → m[j]? = some .o → σ[j]? ≠ some (some (.ref a))) : Rst gv pu E (m.set i .o) (δ.set i (some d)) S Z c (σ.set i (some (.ref a))) H := by
  refine ⟨r.st, r.adv, r.an, by simpa using r.lm, by simpa using r.ld, fun j e h1 h2 => ?_, fun j hj => ?_, fun j k b ne h1 h2 h3 h4 => ?_⟩
  · rcases getElem?_set' h1 with ⟨_, q, _⟩ | ⟨ne, q⟩
    · cases q
    · rw [List.getElem?_set_ne ne] at h2
      obtain ⟨w, h3, h4⟩ := r.zs j e q h2
      exact ⟨w, by rw [List.getElem?_set_ne ne]; exact h3, h4⟩
  · rcases getElem?_set' hj with ⟨e, _, _⟩ | ⟨ne, q⟩
    · subst e
      exact ⟨d, a, o, by rw [List.getElem?_set_self (by rw [r.ld]; exact hi)], by rw [List.getElem?_set_self hi], h, hm, hb, hz, hc, hE⟩
    · obtain ⟨e, a, o, h1, h2, h3⟩ := r.os j q
      exact ⟨e, a, o, by rw [List.getElem?_set_ne ne]; exact h1, by rw [List.getElem?_set_ne ne]; exact h2, h3⟩
  · rcases getElem?_set' h1 with ⟨e1, _, _⟩ | ⟨n1, q1⟩
    · subst e1
      rw [List.getElem?_set_self hi] at h3
      cases h3
      rw [List.getElem?_set_ne ne] at h4
      rcases getElem?_set' h2 with ⟨e2, _, _⟩ | ⟨n2, q2⟩
      · exact ne e2
      · exact hf k n2 q2 h4
    · rw [List.getElem?_set_ne n1] at h3
      rcases getElem?_set' h2 with ⟨e2, _, _⟩ | ⟨n2, q2⟩
      · subst e2
        rw [List.getElem?_set_self hi] at h4
        cases h4
        exact hf j n1 q1 h3
      · rw [List.getElem?_set_ne n2] at h4
        exact r.ds j k b ne q1 q2 h3 h4
/-- a slot is given up -/
theorem Rst.drop (r : Rst gv pu E m δ S Z c σ H) (i : Nat) : Rst gv pu E (m.set i .x) δ S Z c σ H := by
  refine ⟨r.st, r.adv, r.an, by simpa using r.lm, r.ld, fun j e h1 h2 => ?_, fun j h => ?_, fun j k a ne h1 h2 h3 h4 => ?_⟩
  · rcases getElem?_set' h1 with ⟨_, q, _⟩ | ⟨_, q⟩
    · cases q
    · exact r.zs j e q h2
  · rcases getElem?_set' h with ⟨_, q, _⟩ | ⟨_, q⟩
    · cases q
    · exact r.os j q
  · rcases getElem?_set' h1 with ⟨_, q, _⟩ | ⟨_, q1⟩
    · cases q
    · rcases getElem?_set' h2 with ⟨_, q, _⟩ | ⟨_, q2⟩
      · cases q
      · exact r.ds j k a ne q1 q2 h3 h4
/-- a slot's own object is frozen -/
theorem Rst.frz1 (r : Rst gv pu E m δ S Z c σ H) {i : Nat} (hi : m[i]? = some .o) : ∃ Z', Rst gv pu E (m.set i .z) δ S Z' c σ H ∧ Grow H Z c H Z' c ∧ (∀ a, Z' a → Z a ∨ σ[i]? = some (some (.ref a))) := by
  obtain ⟨d, a, o, h1, h2, h3, h4, h5, h6, h7, h8⟩ := r.os i hi
  have g : Grow H Z c H (fun b => Z b ∨ b = a) c := ⟨fun _ _ h _ _ => h, fun _ _ _ h _ => h, fun _ _ h _ => h, fun _ h => .inl h, fun _ _ h => h⟩
  refine ⟨fun b => Z b ∨ b = a, ⟨r.st.zadd h3 h7, r.adv.zadd h8, E.pm _ _ _ _ _ _ g.go r.an, by simpa using r.lm, r.ld, fun j e q1 q2 => ?_, fun j q => ?_, fun j k b ne q1 q2 q3 q4 => ?_⟩, g, fun b z => z.imp id fun e => by rw [e]; exact h2⟩
  · rcases getElem?_set' q1 with ⟨e1, _, _⟩ | ⟨n1, q⟩
    · subst e1
      rw [h1] at q2; cases q2
      exact ⟨_, h2, .obj (.inl h3) (.inl (.inr rfl)) (h5.mono g)⟩
    · obtain ⟨v, w1, w2⟩ := r.zs j e q q2
      exact ⟨v, w1, w2.mono g⟩
  · rcases getElem?_set' q with ⟨_, q, _⟩ | ⟨n1, q⟩
    · cases q
    · obtain ⟨d', b, o', w1, w2, w3, w4, w5, w6, w7, w8⟩ := r.os j q
      refine ⟨d', b, o', w1, w2, w3, w4, w5.mono g, fun z => ?_, w7, w8⟩
      rcases z with z | z
      · exact w6 z
      · subst z
        exact r.ds i j _ n1 hi q h2 w2
  · rcases getElem?_set' q1 with ⟨_, q, _⟩ | ⟨_, q1⟩
    · cases q
    · rcases getElem?_set' q2 with ⟨_, q, _⟩ | ⟨_, q2⟩
      · cases q
      · exact r.ds j k b ne q1 q2 q3 q4
end
end VI
end

section
set_option Elab.async false
set_option linter.all false
set_option autoImplicit false
set_option maxRecDepth 100000
/-! VI, 2: what an expression's reading is on data; the rules of the layer read so -/
namespace VI
open PySem PySem.Spec L2

inductive Res where
  | ok (d : D) (S : Store) | ex (j : Nat) (ds : List D) (S : Store) | st
inductive Ress where
  | ok (ds : List D) (S : Store) | ex (j : Nat) (ds : List D) (S : Store) | st
abbrev Dl := List (Option D)
structure Gc where
  gv : Gv
abbrev Gc.xc (G : Gc) : Nat → Option (Addr × List Str) := G.gv.x
/-- a value that is read in place -/
inductive Vw (gv : Gv) (H : Hp) (Z : Addr → Prop) (c : List Addr) : V → D → Prop
  | rep {v : V} {d : D} : Rep gv H Z c v d → Vw gv H Z c v d
  | top {a : Addr} {o : HO} {d : D} : H a = some o → isMut o → Bd gv H Z c o d → a ∉ c → Vw gv H Z c (.ref a) d
inductive Vws (gv : Gv) (H : Hp) (Z : Addr → Prop) (c : List Addr) : List V → List D → Prop
  | nil : Vws gv H Z c [] []
  | cons {v : V} {d : D} {vs : List V} {ds : List D} : Vw gv H Z c v d → Vws gv H Z c vs ds → Vws gv H Z c (v :: vs) (d :: ds)
/-- H0: the heap ahead of it -/
def RK (gv : Gv) (k : Kd) (H0 H : Hp) (Z : Addr → Prop) (c : List Addr) (v : V) (d : D) : Prop := match k with
  | .z => Rep gv H Z c v d
  | .o => ∃ a o, v = .ref a ∧ H a = some o ∧ isMut o ∧ Bd gv H Z c o d ∧ ¬ Z a ∧ a ∉ c ∧ H0 a = none
  | .b => Vw gv H Z c v d
def ExcAt (G : Gc) (H : Hp) (Z : Addr → Prop) (c : List Addr) (j : Nat) (ds : List D) (cls : Value) (dd : Option Addr) : Prop :=
  ∃ C fs, G.xc j = some (C, fs) ∧ cls = .ref C ∧ ((fs = [] ∧ ds = [] ∧ dd = none) ∨ ∃ a vs, dd = some a ∧ vs.length = fs.length ∧ H a = some (.xd (fs.zip vs)) ∧ Reps G.gv H Z c vs ds)
section
variable {pu : Bool} {gv : Gv} {H H0 H1 H' : Hp} {Z Z1 Z' : Addr → Prop} {c c1 c' : List Addr} {S S' : Store}
theorem Vw.mono (a : Adv pu H Z c H' Z' c') (s : StoreOk gv H Z c S) {v : V} {d : D} : Vw gv H Z c v d → Vw gv H' Z' c' v d
  | .rep r => .rep (r.mono (a.grow s))
  | .top h m b n => by
    refine .top (a.keep _ _ h (.inr n) (mut_nt m)) m (b.mono (a.grow s)) ?_
    obtain ⟨e, q, hn⟩ := a.cn
    rw [q, List.mem_append]
    rintro (z | z)
    · exact n z
    · rw [hn _ z] at h; cases h
theorem Vws.mono (a : Adv pu H Z c H' Z' c') (s : StoreOk gv H Z c S) : ∀ {vs : List V} {ds : List D}, Vws gv H Z c vs ds → Vws gv H' Z' c' vs ds
  | _, _, .nil => .nil
  | _, _, .cons r t => .cons (r.mono a s) (Vws.mono a s t)
theorem RK.vw {k : Kd} {v : V} {d : D} (h : RK gv k H0 H Z c v d) : Vw gv H Z c v d := by
  cases k with
  | z => exact .rep h
  | o => obtain ⟨a, o, rfl, h1, h2, h3, h4, h5, h6⟩ := h; exact .top h1 h2 h3 h5
  | b => exact h
/-- frozen -/
theorem RK.frz {k : Kd} {v : V} {d : D} (hk : k ≠ .b) (h : RK gv k H0 H Z c v d) (a : Adv pu H0 Z1 c1 H Z c) (s : StoreOk gv H Z c S) :
    ∃ Z', Adv pu H0 Z1 c1 H Z' c ∧ StoreOk gv H Z' c S ∧ Rep gv H Z' c v d ∧ Grow H Z c H Z' c := by
  cases k with
  | z => exact ⟨Z, a, s, h, Grow.refl⟩
  | o =>
    obtain ⟨p, o, rfl, h1, h2, h3, h4, h5, h6⟩ := h
    have g : Grow H Z c H (fun b => Z b ∨ b = p) c := ⟨fun _ _ h _ _ => h, fun _ _ _ h _ => h, fun _ _ h _ => h, fun _ h => .inl h, fun _ _ h => h⟩
    exact ⟨_, a.zadd h6, s.zadd h1 h5, .obj (.inl h1) (.inl (.inr rfl)) (h3.mono g), g⟩
  | b => exact absurd rfl hk
/-- ahead of it more -/
theorem RK.back {k : Kd} {v : V} {d : D} (a : Adv pu H0 Z1 c1 H1 Z' c') (h : RK gv k H1 H Z c v d) : RK gv k H0 H Z c v d := by
  cases k with
  | z => exact h
  | o => obtain ⟨p, o, e, h1, h2, h3, h4, h5, h6⟩ := h; exact ⟨p, o, e, h1, h2, h3, h4, h5, a.untr h6⟩
  | b => exact h
theorem RK.newO {p : Addr} {o : HO} {d : D} (hp : H p = none) (s : StoreOk gv H Z c S) (hm : isMut o) (hb : Bd gv H Z c o d) : RK gv .o H (upd H p o) Z c (.ref p) d := by
  refine ⟨p, o, rfl, upd_same, hm, hb.mono (Adv.grow (pu := true) (Adv.new hp) s), fun z => ?_, fun z => ?_, hp⟩
  · obtain ⟨u, h⟩ := s.zt p z
    rw [hp] at h; cases h
  · obtain ⟨n, e⟩ := List.getElem?_of_mem z
    exact s.ne e hp rfl
end

section
variable (G : Gc) (W : WX) (pv : Bool)
/-- an expression's reading -/
def tE (f : Dl → Store → Res) (k : Kd) (okm : List Md → Prop) : TE := fun σ H Q => ∃ E m δ S Z c, Rst G.gv pv E m δ S Z c σ H ∧ okm m ∧ match f δ S with
  | .st => False
  | .ok d S' => ∀ v H' Z' c', Adv pv H Z c H' Z' c' → StoreOk G.gv H' Z' c' S' → RK G.gv k H H' Z' c' v d → Q v H'
  | .ex j ds S' => ∀ H' Z' c' cls dd, Adv pv H Z c H' Z' c' → StoreOk G.gv H' Z' c' S' → ExcAt G H' Z' c' j ds cls dd → W cls dd σ H'
/-- a test's -/
def tTst (f : Dl → Store → Res) (okm : List Md → Prop) : TT := fun σ H Q => ∃ E m δ S Z c, Rst G.gv pv E m δ S Z c σ H ∧ okm m ∧ match f δ S with
  | .st => False
  | .ok d S' => ∃ b, d = .bl b ∧ ∀ H' Z' c', Adv pv H Z c H' Z' c' → StoreOk G.gv H' Z' c' S' → Q b H'
  | .ex j ds S' => ∀ H' Z' c' cls dd, Adv pv H Z c H' Z' c' → StoreOk G.gv H' Z' c' S' → ExcAt G H' Z' c' j ds cls dd → W cls dd σ H'
/-- an argument list's: st: all of them frozen -/
def tAs (f : Dl → Store → Ress) (st : Bool) (okm : List Md → Prop) : TA := fun σ H Q => ∃ E m δ S Z c, Rst G.gv pv E m δ S Z c σ H ∧ okm m ∧ match f δ S with
  | .st => False
  | .ok ds S' => ∀ vs H' Z' c', Adv pv H Z c H' Z' c' → StoreOk G.gv H' Z' c' S' → Vws G.gv H' Z' c' vs ds → (st = true → Reps G.gv H' Z' c' vs ds) → Q vs H'
  | .ex j ds S' => ∀ H' Z' c' cls dd, Adv pv H Z c H' Z' c' → StoreOk G.gv H' Z' c' S' → ExcAt G H' Z' c' j ds cls dd → W cls dd σ H'
end
theorem _root_.L2.PE.impD {X : Cx} {e : Expr} {t t' : TE} (h : PE X e t) (hw : ∀ σ H Q, t' σ H Q → t σ H Q) : PE X e t' := ⟨fun pins s σ H Q I q => h.run pins s σ H Q I (hw _ _ _ q)⟩
theorem _root_.L2.PT.impD {X : Cx} {e : Expr} {t t' : TT} (h : PT X e t) (hw : ∀ σ H Q, t' σ H Q → t σ H Q) : PT X e t' := ⟨fun pins s σ H Q I q => h.run pins s σ H Q I (hw _ _ _ q)⟩
theorem _root_.L2.PW.impD {X : Cx} {e : Expr} {t t' : TT} (h : PW X e t) (hw : ∀ σ H Q, t' σ H Q → t σ H Q) : PW X e t' := ⟨fun wh pins s σ H Q I q => h.run wh pins s σ H Q I (hw _ _ _ q)⟩
theorem _root_.L2.PA.impD {X : Cx} {es : List Expr} {t t' : TA} (h : PA X es t) (hw : ∀ σ H Q, t' σ H Q → t σ H Q) : PA X es t' := ⟨fun pos pins s σ H Q I q => h.run pos pins s σ H Q I (hw _ _ _ q)⟩
theorem _root_.L2.PS.impD {X : Cx} {st : Stmt} {t t' : TS} (h : PS X st t) (hw : ∀ D σ H, t' D σ H → t D σ H) : PS X st t' := ⟨fun pins s σ H D I q => h.run pins s σ H D I (hw _ _ _ q)⟩
theorem _root_.L2.PSs.impD {X : Cx} {st : List Stmt} {t t' : TS} (h : PSs X st t) (hw : ∀ D σ H, t' D σ H → t D σ H) : PSs X st t' := ⟨fun pins s σ H D I q => h.run pins s σ H D I (hw _ _ _ q)⟩

/-! ### evaluation put together -/
def bindR (r : Res) (g : D → Store → Res) : Res := match r with
  | .ok d S => g d S
  | .ex j ds S => .ex j ds S
  | .st => .st
def consR (f : Dl → Store → Res) (g : Dl → Store → Ress) : Dl → Store → Ress := fun δ S => match f δ S with
  | .ok d S1 => (match g δ S1 with
    | .ok ds S2 => .ok (d :: ds) S2
    | .ex j ds S2 => .ex j ds S2
    | .st => .st)
  | .ex j ds S1 => .ex j ds S1
  | .st => .st
def opt (o : Option D) (S : Store) : Res := match o with
  | some d => .ok d S
  | none => .st
def fin1 (f : Dl → Store → Res) (g : Store → D → Option D) : Dl → Store → Res := fun δ S => bindR (f δ S) fun d S1 => opt (g S1 d) S1
def fin2 (f f' : Dl → Store → Res) (g : Store → D → D → Option D) : Dl → Store → Res := fun δ S => bindR (f δ S) fun d S1 => bindR (f' δ S1) fun d' S2 => opt (g S2 d d') S2
def finN (f : Dl → Store → Ress) (g : Store → List D → Option D) : Dl → Store → Res := fun δ S => match f δ S with
  | .ok ds S1 => opt (g S1 ds) S1
  | .ex j ds S1 => .ex j ds S1
  | .st => .st
section
variable {G : Gc} {W : WX} {pv : Bool} {X : Cx}
/-- what an operation is to show: of values that bear data -/
def Op1 (G : Gc) (r : V → Hp → VK → Prop) (g : Store → D → Option D) (k : Kd) : Prop :=
  ∀ (pu : Bool) (H : Hp) (Z : Addr → Prop) (c : List Addr) (S : Store) (v : V) (d e : D) (Q : VK), StoreOk G.gv H Z c S → Vw G.gv H Z c v d → g S d = some e →
    (∀ v H' Z', Adv pu H Z c H' Z' c → StoreOk G.gv H' Z' c S → RK G.gv k H H' Z' c v e → Q v H') → r v H Q
def Op2 (G : Gc) (r : R2) (g : Store → D → D → Option D) (k : Kd) : Prop :=
  ∀ (pu : Bool) (H : Hp) (Z : Addr → Prop) (c : List Addr) (S : Store) (v w : V) (d d' e : D) (Q : VK), StoreOk G.gv H Z c S → Vw G.gv H Z c v d → Vw G.gv H Z c w d' → g S d d' = some e →
    (∀ v H' Z', Adv pu H Z c H' Z' c → StoreOk G.gv H' Z' c S → RK G.gv k H H' Z' c v e → Q v H') → r v w H Q
def OpN (G : Gc) (r : List V → Hp → VK → Prop) (g : Store → List D → Option D) (k : Kd) : Prop :=
  ∀ (pu : Bool) (H : Hp) (Z : Addr → Prop) (c : List Addr) (S : Store) (vs : List V) (ds : List D) (e : D) (Q : VK), StoreOk G.gv H Z c S → Vws G.gv H Z c vs ds → g S ds = some e →
    (∀ v H' Z', Adv pu H Z c H' Z' c → StoreOk G.gv H' Z' c S → RK G.gv k H H' Z' c v e → Q v H') → r vs H Q

theorem un_tE {r : V → Hp → VK → Prop} {g : Store → D → Option D} {f : Dl → Store → Res} {k k1 : Kd} {okm : List Md → Prop} (h : Op1 G r g k) {σ : St} {H : Hp} {Q : VK}
    (q : tE G W pv (fin1 f g) k okm σ H Q) : tE G W pv f k1 okm σ H fun x H1 => r x H1 Q := by
  obtain ⟨E, m, δ, S, Z, c, R, ok, q⟩ := q
  refine ⟨E, m, δ, S, Z, c, R, ok, ?_⟩
  unfold fin1 bindR at q
  cases hf : f δ S with
  | st => rw [hf] at q; exact q
  | ex j ds S' => rw [hf] at q; exact q
  | ok d S' =>
    rw [hf] at q
    dsimp only at q
    show ∀ v H' Z' c', _
    intro v H' Z' c' a s rk
    cases hg : g S' d with
    | none => rw [hg] at q; exact q.elim
    | some e =>
      rw [hg] at q
      exact h pv H' Z' c' S' v d e Q s rk.vw hg fun v2 H2 Z2 a2 s2 r2 => q v2 H2 Z2 c' (a.trans a2) s2 (r2.back a)
theorem bin_tE {r : R2} {g : Store → D → D → Option D} {f f' : Dl → Store → Res} {k k1 k2 : Kd} {okm okm' : List Md → Prop} (h : Op2 G r g k) {σ : St} {H : Hp} {Q : VK}
    (q : tE G W pv (fin2 f f' g) k (fun m => okm m ∧ okm' m) σ H Q) : tE G W pv f k1 okm σ H fun x H1 => tE G W pv f' k2 okm' σ H1 fun y H2 => r x y H2 Q := by
  obtain ⟨E, m, δ, S, Z, c, R, ⟨ok, ok'⟩, q⟩ := q
  refine ⟨E, m, δ, S, Z, c, R, ok, ?_⟩
  unfold fin2 bindR at q
  cases hf : f δ S with
  | st => rw [hf] at q; exact q
  | ex j ds S' => rw [hf] at q; exact q
  | ok d S1 =>
    rw [hf] at q
    dsimp only at q
    show ∀ v H' Z' c', _
    intro v H1 Z1 c1 a s rk
    refine ⟨E, m, δ, S1, Z1, c1, R.step a s, ok', ?_⟩
    cases hf' : f' δ S1 with
    | st => rw [hf'] at q; exact q
    | ex j ds S' => rw [hf'] at q; exact fun H' Z' c' cls dd a' s' x => q H' Z' c' cls dd (a.trans a') s' x
    | ok d' S2 =>
      rw [hf'] at q
      dsimp only at q
      show ∀ v H' Z' c', _
      intro w H2 Z2 c2 a' s' rk'
      cases hg : g S2 d d' with
      | none => rw [hg] at q; exact q.elim
      | some e =>
        rw [hg] at q
        exact h pv H2 Z2 c2 S2 v w d d' e Q s' (rk.vw.mono a' s) rk'.vw hg fun v2 H3 Z3 a2 s2 r2 => q v2 H3 Z3 c2 ((a.trans a').trans a2) s2 (r2.back (a.trans a'))
theorem many_tE {r : List V → Hp → VK → Prop} {g : Store → List D → Option D} {f : Dl → Store → Ress} {k : Kd} {st : Bool} {okm : List Md → Prop} (h : OpN G r g k) {σ : St} {H : Hp} {Q : VK}
    (q : tE G W pv (finN f g) k okm σ H Q) : tAs G W pv f st okm σ H fun vs H1 => r vs H1 Q := by
  obtain ⟨E, m, δ, S, Z, c, R, ok, q⟩ := q
  refine ⟨E, m, δ, S, Z, c, R, ok, ?_⟩
  unfold finN at q
  cases hf : f δ S with
  | st => rw [hf] at q; exact q
  | ex j ds S' => rw [hf] at q; exact q
  | ok ds S' =>
    rw [hf] at q
    dsimp only at q
    show ∀ v H' Z' c', _
    intro vs H' Z' c' a s rs _
    cases hg : g S' ds with
    | none => rw [hg] at q; exact q.elim
    | some e =>
      rw [hg] at q
      exact h pv H' Z' c' S' vs ds e Q s rs hg fun v2 H2 Z2 a2 s2 r2 => q v2 H2 Z2 c' (a.trans a2) s2 (r2.back a)

/-! ### names, constants -/
def fVar (i : Nat) : Dl → Store → Res := fun δ S => match δ[i]? with
  | some (some d) => .ok d S
  | _ => .st
theorem var_tE {i : Nat} {σ : St} {H : Hp} {Q : VK} (q : tE G W pv (fVar i) .z (fun m => m[i]? = some .z) σ H Q) : tVar i σ H Q := by
  obtain ⟨E, m, δ, S, Z, c, R, ok, q⟩ := q
  unfold fVar at q
  cases h : δ[i]? with
  | none => rw [h] at q; exact q.elim
  | some o => cases o with
    | none => rw [h] at q; exact q.elim
    | some d =>
      rw [h] at q
      obtain ⟨v, h1, h2⟩ := R.zs i d ok h
      exact ⟨v, h1, q v H Z c Adv.refl R.st h2⟩
theorem bor_tE {i : Nat} {σ : St} {H : Hp} {Q : VK} (q : tE G W pv (fVar i) .b (fun m => m[i]? = some .z ∨ m[i]? = some .o) σ H Q) : tVar i σ H Q := by
  obtain ⟨E, m, δ, S, Z, c, R, ok, q⟩ := q
  unfold fVar at q
  cases h : δ[i]? with
  | none => rw [h] at q; exact q.elim
  | some o => cases o with
    | none => rw [h] at q; exact q.elim
    | some d =>
      rw [h] at q
      rcases ok with ok | ok
      · obtain ⟨v, h1, h2⟩ := R.zs i d ok h
        exact ⟨v, h1, q v H Z c Adv.refl R.st (.rep h2)⟩
      · obtain ⟨d', a, o, h1, h2, h3, h4, h5, h6, h7, h8⟩ := R.os i ok
        rw [h] at h1; cases h1
        exact ⟨.ref a, h2, q (.ref a) H Z c Adv.refl R.st (.top h3 h4 h5 h7)⟩
def fCon (d : D) : Dl → Store → Res := fun _ S => .ok d S
theorem con_tE {v : V} {d : D} {σ : St} {H : Hp} {Q : VK} (h : ∀ H Z c, Rep G.gv H Z c v d) (q : tE G W pv (fCon d) .z (fun _ => True) σ H Q) : tC v σ H Q := by
  obtain ⟨E, m, δ, S, Z, c, R, ok, q⟩ := q
  exact q v H Z c Adv.refl R.st (h H Z c)

/-! ### argument lists -/
def fNil : Dl → Store → Ress := fun _ S => .ok [] S
theorem pa_nilD {st : Bool} : PA X [] (tAs G W pv fNil st fun _ => True) := pa_nil.impD fun σ H Q q => by
  obtain ⟨E, m, δ, S, Z, c, R, ok, q⟩ := q
  exact q [] H Z c Adv.refl R.st .nil fun _ => .nil
theorem pa_consD {st : Bool} {e : Expr} {es : List Expr} {f : Dl → Store → Res} {g : Dl → Store → Ress} {k : Kd} {okm okm' : List Md → Prop} (hk : st = true → k ≠ .b) (ha : PE X e (tE G W pv f k okm)) (hr : PA X es (tAs G W pv g st okm'))
    (hs : starEach (e :: es) X.env = (false, eval e X.env) :: starEach es X.env) : PA X (e :: es) (tAs G W pv (consR f g) st fun m => okm m ∧ okm' m) := (pa_cons ha hr hs).impD fun σ H Q q => by
  obtain ⟨E, m, δ, S, Z, c, R, ⟨ok, ok'⟩, q⟩ := q
  refine ⟨E, m, δ, S, Z, c, R, ok, ?_⟩
  unfold consR at q
  cases hf : f δ S with
  | st => rw [hf] at q; exact q
  | ex j ds S' => rw [hf] at q; exact q
  | ok d S1 =>
    rw [hf] at q
    dsimp only at q
    show ∀ v H' Z' c', _
    intro v H1 Z1 c1 a s rk
    -- frozen, where it is wanted
    have key : ∃ Z2, Adv pv H Z c H1 Z2 c1 ∧ StoreOk G.gv H1 Z2 c1 S1 ∧ Vw G.gv H1 Z2 c1 v d ∧ (st = true → Rep G.gv H1 Z2 c1 v d) := by
      cases st with
      | false => exact ⟨Z1, a, s, rk.vw, fun z => by cases z⟩
      | true =>
        obtain ⟨Z2, a2, s2, r2, _⟩ := rk.frz (hk rfl) a s
        exact ⟨Z2, a2, s2, .rep r2, fun _ => r2⟩
    obtain ⟨Z2, a2, s2, vw, rp⟩ := key
    refine ⟨E, m, δ, S1, Z2, c1, R.step a2 s2, ok', ?_⟩
    cases hg : g δ S1 with
    | st => rw [hg] at q; exact q
    | ex j ds S' => rw [hg] at q; exact fun H' Z' c' cls dd a' s' x => q H' Z' c' cls dd (a2.trans a') s' x
    | ok ds S3 =>
      rw [hg] at q
      dsimp only at q
      show ∀ v H' Z' c', _
      intro vs H3 Z3 c3 a3 s3 ws rs
      exact q (v :: vs) H3 Z3 c3 (a2.trans a3) s3 (.cons (vw.mono a3 s2) ws) fun z => .cons ((rp z).mono (a3.grow s2)) (rs z)

/-! ### displays -/
def fTup (f : Dl → Store → Ress) : Dl → Store → Res := fun δ S => match f δ S with
  | .ok ds S1 => if ds.length ≤ sizeLine then .ok (.tup ds) S1 else .st
  | .ex j ds S1 => .ex j ds S1
  | .st => .st
def fLst (f : Dl → Store → Ress) : Dl → Store → Res := fun δ S => match f δ S with
  | .ok ds S1 => if ds.length ≤ sizeLine then .ok (.lst ds) S1 else .st
  | .ex j ds S1 => .ex j ds S1
  | .st => .st
theorem pe_tupD {es : List Expr} {f : Dl → Store → Ress} {okm : List Md → Prop} {x1 : Nat} {pos : Pos} (h : PA X es (tAs G W pv f true okm)) : PE X (.Tuple es x1 pos) (tE G W pv (fTup f) .z okm) := (pe_tup h).impD fun σ H Q q => by
  obtain ⟨E, m, δ, S, Z, c, R, ok, q⟩ := q
  refine ⟨E, m, δ, S, Z, c, R, ok, ?_⟩
  unfold fTup at q
  cases hf : f δ S with
  | st => rw [hf] at q; exact q
  | ex j ds S' => rw [hf] at q; exact q
  | ok ds S1 =>
    rw [hf] at q
    dsimp only at q
    show ∀ v H' Z' c', _
    intro vs H1 Z1 c1 a s _ rs
    have rs := rs rfl
    by_cases hl : ds.length ≤ sizeLine
    · rw [if_pos hl] at q
      refine ⟨by rw [rs.length]; exact hl, fun p hp => ?_⟩
      exact q _ _ Z1 c1 (a.trans (Adv.new hp)) (s.new hp) (.obj (.inl upd_same) (.inr trivial) ((Bd.tup rs).mono ((Adv.new (pu := true) hp).grow s)))
    · rw [if_neg hl] at q; exact q.elim
theorem pe_lstD {es : List Expr} {f : Dl → Store → Ress} {okm : List Md → Prop} {pos : Pos} (h : PA X es (tAs G W pv f true okm)) : PE X (.List es pos) (tE G W pv (fLst f) .o okm) := (pe_lst h).impD fun σ H Q q => by
  obtain ⟨E, m, δ, S, Z, c, R, ok, q⟩ := q
  refine ⟨E, m, δ, S, Z, c, R, ok, ?_⟩
  unfold fLst at q
  cases hf : f δ S with
  | st => rw [hf] at q; exact q
  | ex j ds S' => rw [hf] at q; exact q
  | ok ds S1 =>
    rw [hf] at q
    dsimp only at q
    show ∀ v H' Z' c', _
    intro vs H1 Z1 c1 a s _ rs
    have rs := rs rfl
    by_cases hl : ds.length ≤ sizeLine
    · rw [if_pos hl] at q
      refine ⟨by rw [rs.length]; exact hl, fun p hp => ?_⟩
      exact q _ _ Z1 c1 (a.trans (Adv.new hp)) (s.new hp) ((RK.newO (o := .lst vs) hp s trivial (Bd.lst rs)).back a)
    · rw [if_neg hl] at q; exact q.elim
def fDnew (t : Bool) : Dl → Store → Res := fun _ S => .ok (.dct t [] []) S
theorem pe_dnewD (t : Bool) {pos : Pos} : PE X (.Dict [] [] pos) (tE G W pv (fDnew t) .o fun _ => True) := by
  cases t with
  | false =>
    refine pe_dnewK.impD fun σ H Q q => ?_
    obtain ⟨E, m, δ, S, Z, c, R, ok, q⟩ := q
    intro p hp
    exact q _ _ Z c (Adv.new hp) (R.st.new hp) (RK.newO hp R.st trivial (.dK rfl .nil))
  | true =>
    refine pe_dnewT.impD fun σ H Q q => ?_
    obtain ⟨E, m, δ, S, Z, c, R, ok, q⟩ := q
    intro p hp
    exact q _ _ Z c (Adv.new hp) (R.st.new hp) (RK.newO hp R.st trivial (.dT rfl .nil))

/-! ### operators -/
theorem pe_binD {a b : Expr} {op : Operator} {pos : Pos} {r : R2} {g : Store → D → D → Option D} {f f' : Dl → Store → Res} {k k1 k2 : Kd} {okm okm' : List Md → Prop} (ho : OpR X (binaryOp op) r) (h : Op2 G r g k) (ha : PE X a (tE G W pv f k1 okm)) (hb : PE X b (tE G W pv f' k2 okm')) :
    PE X (.BinOp a op b pos) (tE G W pv (fin2 f f' g) k fun m => okm m ∧ okm' m) := (pe_op ho ha hb).impD fun σ H Q q => bin_tE h q
theorem pe_cmpD {a b : Expr} {op : CmpOp} {pos : Pos} {r : R2} {g : Store → D → D → Option D} {f f' : Dl → Store → Res} {k k1 k2 : Kd} {okm okm' : List Md → Prop} (ho : OpR X (compareOp op) r) (h : Op2 G r g k) (ha : PE X a (tE G W pv f k1 okm)) (hb : PE X b (tE G W pv f' k2 okm')) (hm : behindInMarks op b = false) :
    PE X (.Compare a [op] [b] pos) (tE G W pv (fin2 f f' g) k fun m => okm m ∧ okm' m) := (pe_cmpR ho ha hb hm).impD fun σ H Q q => bin_tE h q
theorem pe_ixD {a b : Expr} {pos : Pos} {r : R2} {g : Store → D → D → Option D} {f f' : Dl → Store → Res} {k k1 k2 : Kd} {okm okm' : List Md → Prop} (ho : IxR X r) (h : Op2 G r g k) (ha : PE X a (tE G W pv f k1 okm)) (hb : PE X b (tE G W pv f' k2 okm')) (hs : PlainIx b) :
    PE X (.Subscript a b pos) (tE G W pv (fin2 f f' g) k fun m => okm m ∧ okm' m) := (pe_ix ho ha hb hs).impD fun σ H Q q => bin_tE h q
theorem pe_unD {a : Expr} {op : UnaryOp} {pos : Pos} {r : V → Hp → VK → Prop} {g : Store → D → Option D} {f : Dl → Store → Res} {k k1 : Kd} {okm : List Md → Prop} (ho : UnR X (unaryOp op) r) (h : Op1 G r g k) (ha : PE X a (tE G W pv f k1 okm)) :
    PE X (.UnaryOp op a pos) (tE G W pv (fin1 f g) k okm) := (pe_un ho ha).impD fun σ H Q q => un_tE h q
theorem pe_blD {x : Str} {id : String} {p pos : Pos} {e : Expr} {es : List Expr} {r : List V → Hp → VK → Prop} {g : Store → List D → Option D} {f : Dl → Store → Ress} {k : Kd} {st : Bool} {okm : List Md → Prop} (hc : CallR X (.builtin id) r) (h : OpN G r g k) (hg : Gl X x) (hm : X.mg x = none) (hv : bootBuiltins x = some (.builtin id))
    (ha : PA X (e :: es) (tAs G W pv f st okm)) (hn : x ≠ "__name__") (hdb : (x == ("__debug__" : Str)) = false)
    (he : starEach (e :: es) X.env = (false, eval e X.env) :: starEach es X.env) (hpl : (backTo pos (starEach es X.env)).any (·.1) = false) : PE X (.Call (.Name x p) (e :: es) [] pos) (tE G W pv (finN f g) k okm) :=
  (pe_callB hc hg hm hv ha hn hdb he hpl).impD fun σ H Q q => many_tE h q
theorem pe_tyD {x : Str} {T : String} {p pos : Pos} {e : Expr} {es : List Expr} {r : List V → Hp → VK → Prop} {g : Store → List D → Option D} {f : Dl → Store → Ress} {k : Kd} {st : Bool} {okm : List Md → Prop} (hc : CallR X (.type T) r) (h : OpN G r g k) (hg : Gl X x) (hm : X.mg x = none) (hv : bootBuiltins x = some (.type T))
    (ha : PA X (e :: es) (tAs G W pv f st okm)) (hn : x ≠ "__name__") (hdb : (x == ("__debug__" : Str)) = false)
    (he : starEach (e :: es) X.env = (false, eval e X.env) :: starEach es X.env) (hpl : (backTo pos (starEach es X.env)).any (·.1) = false) : PE X (.Call (.Name x p) (e :: es) [] pos) (tE G W pv (finN f g) k okm) :=
  (pe_callTy hc hg hm hv ha hn hdb he hpl).impD fun σ H Q q => many_tE h q
end
end VI
end

section
set_option Elab.async false
set_option linter.all false
set_option autoImplicit false
set_option maxRecDepth 100000
/-! VI, 3: operations on data -/
namespace VI
open PySem PySem.Spec L2

/-! ### data: cells followed, kinds, equality -/
def der (S : Store) : D → D
  | .cell n => match S[n]? with
    | some s => s.d
    | none => .non
  | d => d
mutual
def D.beq : D → D → Bool
  | .non, .non => true
  | .bl a, .bl b => a == b
  | .int a, .int b => a == b
  | .str a, .str b => decide (a = b)
  | .lst xs, .lst ys => D.beqs xs ys
  | .tup xs, .tup ys => D.beqs xs ys
  | .dct t ks vs, .dct t' ks' vs' => (t == t') && D.beqs ks ks' && D.beqs vs vs'
  | .cell a, .cell b => a == b
  | .fn a, .fn b => a == b
  | _, _ => false
def D.beqs : List D → List D → Bool
  | [], [] => true
  | x :: xs, y :: ys => D.beq x y && D.beqs xs ys
  | _, _ => false
end
/-- reading -/
inductive Vr (gv : Gv) (H : Hp) (Z : Addr → Prop) (c : List Addr) : V → D → Prop
  | rep {v : V} {d : D} : Rep gv H Z c v d → Vr gv H Z c v d
  | top {a : Addr} {o : HO} {d : D} : At H a o → isMut o → Bd gv H Z c o d → Vr gv H Z c (.ref a) d
section
variable {gv : Gv} {H : Hp} {Z : Addr → Prop} {c : List Addr} {S : Store} {v : V} {d : D}
theorem Vw.vr (h : Vw gv H Z c v d) : Vr gv H Z c v d := by
  cases h with
  | rep r => exact .rep r
  | top h m b _ => exact .top (.inl h) m b
theorem Vw.der (s : StoreOk gv H Z c S) (h : Vw gv H Z c v d) : Vr gv H Z c v (der S d) := by
  cases d with
  | cell n =>
    cases h with
    | rep r =>
      cases r with
      | cell e =>
        obtain ⟨sc, o, h1, h2, h3, h4, _⟩ := s.ok _ _ e
        simp only [VI.der, h1]
        exact .top h2.at' h3 h4
      | obj _ _ b => cases b
    | top h m b n => cases b
  | _ => exact h.vr
theorem Vr.lst {ds : List D} (h : Vr gv H Z c v (.lst ds)) : ∃ a vs, v = .ref a ∧ H a = some (.lst vs) ∧ Reps gv H Z c vs ds := by
  cases h with
  | rep r => cases r with
    | obj h z b => cases b with
      | lst r => exact ⟨_, _, rfl, h.lst, r⟩
  | top h m b => cases b with
    | lst r => exact ⟨_, _, rfl, h.lst, r⟩
theorem Vr.tup {ds : List D} (h : Vr gv H Z c v (.tup ds)) : ∃ a vs, v = .ref a ∧ H a = some (.tup vs) ∧ Reps gv H Z c vs ds ∧ Rep gv H Z c v (.tup ds) := by
  cases h with
  | rep r => cases r with
    | obj h z b => cases b with
      | tup r => exact ⟨_, _, rfl, h.tup, r, .obj h z (.tup r)⟩
  | top h m b => cases b with
    | tup r => exact m.elim
theorem Vr.dct {t : Bool} {ks vs : List D} (h : Vr gv H Z c v (.dct t ks vs)) : ∃ a o, v = .ref a ∧ At H a o ∧ Bd gv H Z c o (.dct t ks vs) := by
  cases h with
  | rep r => cases r with
    | obj h z b => exact ⟨_, _, rfl, h, b⟩
  | top h m b => exact ⟨_, _, rfl, h, b⟩
theorem Vr.rp (h : Vr gv H Z c v d) (hd : match d with | .non => True | .bl _ => True | .int _ => True | .str _ => True | .fn _ => True | .scr _ => True | _ => False) : Rep gv H Z c v d := by
  cases h with
  | rep r => exact r
  | top h m b => cases b <;> exact hd.elim
theorem Vr.int {i : Int} (h : Vr gv H Z c v (.int i)) : v = .int i := by cases h.rp trivial with
  | int => rfl
  | obj _ _ b => cases b
theorem Vr.bl {i : Bool} (h : Vr gv H Z c v (.bl i)) : v = .bl i := by cases h.rp trivial with
  | bl => rfl
  | obj _ _ b => cases b
theorem Vr.str {i : Str} (h : Vr gv H Z c v (.str i)) : v = .str i := by cases h.rp trivial with
  | str => rfl
  | obj _ _ b => cases b
theorem Vr.non (h : Vr gv H Z c v .non) : v = .non := by cases h.rp trivial with
  | non => rfl
  | obj _ _ b => cases b
theorem Vr.scr {ns : List Int} (h : Vr gv H Z c v (.scr ns)) : ∃ a, v = .ref a ∧ (Rd H a (.lst (ns.map V.int)) ∨ gv.q a ns) := by cases h.rp trivial with
  | scr h => exact ⟨_, rfl, .inl (.inr ⟨_, h⟩)⟩
  | scrK h => exact ⟨_, rfl, .inr h⟩
  | scrZ h z => exact ⟨_, rfl, .inl (.inl h)⟩
  | obj _ _ b => cases b
/-- the value as it is -/
theorem same_ret {pu : Bool} {k : Kd} {e : D} {Q : VK} (hk : k ≠ .o) (s : StoreOk gv H Z c S) (r : Rep gv H Z c v e) (q : ∀ v H' Z', Adv pu H Z c H' Z' c → StoreOk gv H' Z' c S → RK gv k H H' Z' c v e → Q v H') : Q v H :=
  q v H Z Adv.refl s (by
    cases k with
    | z => exact r
    | o => exact absurd rfl hk
    | b => exact .rep r)
end

variable {G : Gc} {X : Cx}
/-- ints: a value of them -/
def gII (C : Int → Int → Bool) (g : Int → Int → D) (S : Store) (d d' : D) : Option D := match d, d' with
  | .int i, .int j => if C i j then some (g i j) else none
  | _, _ => none

/-! ### + -/
def gAdd (S : Store) (d d' : D) : Option D := match der S d, der S d' with
  | .int i, .int j => some (.int (i + j))
  | .str x, .str y => if x.length + y.length ≤ sizeLine then some (.str (x ++ y)) else none
  | .tup xs, .tup ys => if xs.length + ys.length ≤ sizeLine then some (.tup (xs ++ ys)) else none
  | _, _ => none
def gCat (S : Store) (d d' : D) : Option D := match der S d, der S d' with
  | .lst xs, .lst ys => if xs.length + ys.length ≤ sizeLine then some (.lst (xs ++ ys)) else none
  | _, _ => none
theorem add_ok : Op2 G (fun x y H Q => ((rI0 fun i j => .int (i + j)) x y H Q ∨ (∃ i j, x = .str i ∧ y = .str j ∧ i.length + j.length ≤ sizeLine ∧ Q (.str (i ++ j)) H)) ∨ rCatA X.K x y H Q) gAdd .z := by
  intro pu H Z c S v w d d' e Q s h h' hg q
  have h := h.der s
  have h' := h'.der s
  unfold gAdd at hg
  split at hg
  · rename_i i j e1 e2
    cases hg
    rw [e1] at h; rw [e2] at h'
    exact .inl (.inl ⟨i, j, h.int, h'.int, same_ret (by decide) s (.int _) q⟩)
  · rename_i i j e1 e2
    rw [e1] at h; rw [e2] at h'
    split at hg
    · rename_i hl
      cases hg
      exact .inl (.inr ⟨i, j, h.str, h'.str, hl, same_ret (by decide) s (.str _) q⟩)
    · cases hg
  · rename_i xs ys e1 e2
    rw [e1] at h; rw [e2] at h'
    split at hg
    · rename_i hl
      cases hg
      obtain ⟨a, vs, rfl, ha, rs, r1⟩ := h.tup
      obtain ⟨b, ws, rfl, hb, rt, r2⟩ := h'.tup
      refine .inr ⟨a, b, vs, ws, rfl, rfl, .inl (.inl ha), .inl (.inl hb), by rw [rs.length, rt.length]; exact hl, fun z => ?_, fun _ z => ?_, fun _ _ p hp => ?_⟩
      · subst z
        cases rs
        exact same_ret (by decide) s r2 q
      · subst z
        cases rt
        rw [List.append_nil] at q
        exact same_ret (by decide) s r1 q
      · exact q _ _ Z (Adv.new hp) (s.new hp) (.obj (.inl upd_same) (.inr trivial) ((Bd.tup (rs.append rt)).mono ((Adv.new (pu := true) hp).grow s)))
    · cases hg
  · cases hg
theorem cat_ok : Op2 G rCat gCat .o := by
  intro pu H Z c S v w d d' e Q s h h' hg q
  have h := h.der s
  have h' := h'.der s
  unfold gCat at hg
  split at hg
  · rename_i xs ys e1 e2
    rw [e1] at h; rw [e2] at h'
    split at hg
    · rename_i hl
      cases hg
      obtain ⟨a, vs, rfl, ha, rs⟩ := h.lst
      obtain ⟨b, ws, rfl, hb, rt⟩ := h'.lst
      refine ⟨a, b, vs, ws, rfl, rfl, ha, hb, by rw [rs.length, rt.length]; exact hl, fun p hp => ?_⟩
      exact q _ _ Z (Adv.new hp) (s.new hp) (RK.newO (o := .lst (vs ++ ws)) hp s trivial (.lst (rs.append rt)))
    · cases hg
  · cases hg
/-- ints alone -/
theorem ints_ok {C : Int → Int → Prop} {B : Int → Int → Bool} {g : Int → Int → V} {g' : Int → Int → D} (hC : ∀ i j, B i j = true → C i j) (hg' : ∀ i j H Z c, Rep G.gv H Z c (g i j) (g' i j)) : Op2 G (rI C g) (gII B g') .z := by
  intro pu H Z c S v w d d' e Q s h h' hg q
  unfold gII at hg
  split at hg
  · rename_i i j
    split at hg
    · rename_i hl
      cases hg
      exact ⟨i, j, h.vr.int, h'.vr.int, hC i j hl, same_ret (by decide) s (hg' i j H Z c) q⟩
    · cases hg
  · cases hg
theorem ints_ok0 {g : Int → Int → V} {g' : Int → Int → D} (hg' : ∀ i j H Z c, Rep G.gv H Z c (g i j) (g' i j)) : Op2 G (rI0 g) (gII (fun _ _ => true) g') .z := by
  intro pu H Z c S v w d d' e Q s h h' hg q
  unfold gII at hg
  split at hg
  · rename_i i j
    cases hg
    exact ⟨i, j, h.vr.int, h'.vr.int, same_ret (by decide) s (hg' i j H Z c) q⟩
  · cases hg
def bMul (i j : Int) : Bool := decide (-(2 ^ 64) < i ∧ i < 2 ^ 64) || decide (-(2 ^ 64) < j ∧ j < 2 ^ 64)
def bDiv (_ j : Int) : Bool := decide (j ≠ 0 ∧ j.natAbs < 1073741824)
def bMod (_ j : Int) : Bool := decide (j ≠ 0)
def bPow (i j : Int) : Bool := decide (0 ≤ j ∧ j ≤ 1000000 ∧ i.natAbs < 2 ^ 64)

/-! ### ==, != -/
mutual
def D.py : D → PyData
  | .non => .none
  | .bl b => .bool b
  | .int i => .int i
  | .str x => .str x
  | .lst xs => .list (D.pys xs)
  | .tup xs => .tuple (D.pys xs)
  | _ => .dict []
def D.pys : List D → List PyData
  | [] => []
  | x :: xs => D.py x :: D.pys xs
end
/-! of what == is told: no dicts, no cells within, texts of signs, 64 deep -/
mutual
def D.plain : Nat → D → Bool
  | _, .non => true
  | _, .bl _ => true
  | _, .int _ => true
  | _, .str x => PyData.strOk x
  | n + 1, .lst xs => D.plains n xs
  | n + 1, .tup xs => D.plains n xs
  | _, _ => false
def D.plains : Nat → List D → Bool
  | _, [] => true
  | n, x :: xs => D.plain n x && D.plains n xs
end
/-! Python's == -/
mutual
def D.eqv : D → D → Bool
  | .non, .non => true
  | .bl a, .bl b => a == b
  | .bl a, .int j => (if a then 1 else 0) == j
  | .int i, .bl b => i == (if b then 1 else 0)
  | .int i, .int j => i == j
  | .str x, .str y => x == y
  | .lst xs, .lst ys => D.eqvs xs ys
  | .tup xs, .tup ys => D.eqvs xs ys
  | _, _ => false
def D.eqvs : List D → List D → Bool
  | [], [] => true
  | x :: xs, y :: ys => D.eqv x y && D.eqvs xs ys
  | _, _ => false
end
mutual
theorem eqv_py : ∀ (n m : Nat) (d e : D), D.plain n d = true → D.plain m e = true → PyData.eqv d.py e.py = D.eqv d e := by
  intro n m d e hd he
  cases d with
  | lst xs => cases e with
    | lst ys =>
      cases n with
      | zero => simp [D.plain] at hd
      | succ n => cases m with
        | zero => simp [D.plain] at he
        | succ m =>
          rw [D.plain] at hd he
          rw [D.py, D.py, PyData.eqv, D.eqv]
          exact eqvs_py n m xs ys hd he
    | _ => cases m <;> simp_all [D.py, D.eqv, PyData.eqv, D.plain]
  | tup xs => cases e with
    | tup ys =>
      cases n with
      | zero => simp [D.plain] at hd
      | succ n => cases m with
        | zero => simp [D.plain] at he
        | succ m =>
          rw [D.plain] at hd he
          rw [D.py, D.py, PyData.eqv, D.eqv]
          exact eqvs_py n m xs ys hd he
    | _ => cases m <;> simp_all [D.py, D.eqv, PyData.eqv, D.plain]
  | _ => cases e <;> cases n <;> cases m <;> simp_all [D.py, D.eqv, PyData.eqv, D.plain]
theorem eqvs_py : ∀ (n m : Nat) (ds es : List D), D.plains n ds = true → D.plains m es = true → PyData.eqvAll (D.pys ds) (D.pys es) = D.eqvs ds es := by
  intro n m ds es hd he
  cases ds with
  | nil => cases es <;> simp [D.pys, D.eqvs, PyData.eqvAll]
  | cons d ds => cases es with
    | nil => simp [D.pys, D.eqvs, PyData.eqvAll]
    | cons e es =>
      rw [D.plains, Bool.and_eq_true] at hd he
      rw [D.pys, D.pys, PyData.eqvAll, D.eqvs, eqv_py n m d e hd.1 he.1, eqvs_py n m ds es hd.2 he.2]
end
mutual
theorem plain_shape : ∀ (n : Nat) (d : D), D.plain n d = true → d.py.canLay0 = true ∧ d.py.depth ≤ n
  | n, .non, _ => by simp [D.py, PyData.canLay0, PyData.depth]
  | n, .bl _, _ => by simp [D.py, PyData.canLay0, PyData.depth]
  | n, .int _, _ => by simp [D.py, PyData.canLay0, PyData.depth]
  | n, .str x, h => by
    have h : PyData.strOk x = true := by cases n <;> simpa [D.plain] using h
    simp [D.py, PyData.canLay0, PyData.depth, h]
  | n + 1, .lst xs, h => by
    rw [D.plain] at h
    obtain ⟨h1, h2⟩ := plains_shape n xs h
    simp only [D.py, PyData.canLay0, PyData.depth]
    exact ⟨h1, by omega⟩
  | n + 1, .tup xs, h => by
    rw [D.plain] at h
    obtain ⟨h1, h2⟩ := plains_shape n xs h
    simp only [D.py, PyData.canLay0, PyData.depth]
    exact ⟨h1, by omega⟩
  | 0, .lst xs, h => by simp [D.plain] at h
  | 0, .tup xs, h => by simp [D.plain] at h
  | n, .dct _ _ _, h => by cases n <;> simp [D.plain] at h
  | n, .cell _, h => by cases n <;> simp [D.plain] at h
  | n, .fn _, h => by cases n <;> simp [D.plain] at h
  | n, .scr _, h => by cases n <;> simp [D.plain] at h
  | n, .exc _ _, h => by cases n <;> simp [D.plain] at h
theorem plains_shape : ∀ (n : Nat) (ds : List D), D.plains n ds = true → PyData.canLayAll0 (D.pys ds) = true ∧ PyData.depthAll (D.pys ds) ≤ n
  | n, [], _ => by simp [D.pys, PyData.canLayAll0, PyData.depthAll]
  | n, d :: ds, h => by
    rw [D.plains, Bool.and_eq_true] at h
    obtain ⟨h1, h2⟩ := plain_shape n d h.1
    obtain ⟨h3, h4⟩ := plains_shape n ds h.2
    simp only [D.pys, PyData.canLayAll0, PyData.depthAll, h1, h3, Bool.and_self]
    exact ⟨trivial, by omega⟩
end
theorem shaped_of {d : D} (h : D.plain 64 d = true) : SeqAt.shaped d.py = true := by
  obtain ⟨h1, h2⟩ := plain_shape 64 d h
  unfold SeqAt.shaped
  rw [h1, decide_eq_true h2]
  rfl
section
variable {gv : Gv} {K : PySem.W.Frag} {H : Hp} {Z : Addr → Prop} {c : List Addr}
theorem dp_all : ∀ n : Nat, (∀ (v : V) (d : D), Rep gv H Z c v d → D.plain n d = true → Dp K H v d.py) ∧ (∀ (ds : List D) (vs : List V), Reps gv H Z c vs ds → D.plains n ds = true → DpAll K H vs (D.pys ds)) := by
  have lists : ∀ n : Nat, (∀ (v : V) (d : D), Rep gv H Z c v d → D.plain n d = true → Dp K H v d.py) → ∀ (ds : List D) (vs : List V), Reps gv H Z c vs ds → D.plains n ds = true → DpAll K H vs (D.pys ds) := by
    intro n ih ds
    induction ds with
    | nil => intro vs r _; cases r; rw [D.pys]; exact .nil
    | cons d ds ihd =>
      intro vs r p
      cases r with
      | cons r t =>
        rw [D.plains, Bool.and_eq_true] at p
        rw [D.pys]
        exact .cons (ih _ _ r p.1) (ihd _ t p.2)
  have flat : ∀ (n : Nat) (v : V) (d : D), Rep gv H Z c v d → D.plain n d = true → (∀ ds, d ≠ .lst ds) → (∀ ds, d ≠ .tup ds) → Dp K H v d.py := by
    intro n v d r p h1 h2
    cases r with
    | non => rw [D.py]; exact .non
    | bl b => rw [D.py]; exact .bl b
    | int i => rw [D.py]; exact .int i
    | str x => rw [D.py]; exact .str x
    | obj h z b => cases b with
      | lst r => exact absurd rfl (h1 _)
      | tup r => exact absurd rfl (h2 _)
      | dK e r => cases n <;> simp [D.plain] at p
      | dT e r => cases n <;> simp [D.plain] at p
    | cell h => cases n <;> simp [D.plain] at p
    | fn h => cases n <;> simp [D.plain] at p
    | scr h => cases n <;> simp [D.plain] at p
    | scrK h => cases n <;> simp [D.plain] at p
    | scrZ h z => cases n <;> simp [D.plain] at p
    | exc0 h1 h2 => cases n <;> simp [D.plain] at p
    | exc1 h1 h2 h3 h4 h5 => cases n <;> simp [D.plain] at p
  intro n
  induction n with
  | zero =>
    have one : ∀ (v : V) (d : D), Rep gv H Z c v d → D.plain 0 d = true → Dp K H v d.py := fun v d r p => flat 0 v d r p (fun ds e => by subst e; simp [D.plain] at p) fun ds e => by subst e; simp [D.plain] at p
    exact ⟨one, lists 0 one⟩
  | succ n ih =>
    have one : ∀ (v : V) (d : D), Rep gv H Z c v d → D.plain (n + 1) d = true → Dp K H v d.py := by
      intro v d r p
      by_cases h1 : ∃ ds, d = .lst ds
      · obtain ⟨ds, rfl⟩ := h1
        cases r with
        | obj h z b => cases b with
          | lst r =>
            rw [D.plain] at p
            rw [D.py]
            exact .lst (.inl (.inl h.lst)) (ih.2 _ _ r p)
      · by_cases h2 : ∃ ds, d = .tup ds
        · obtain ⟨ds, rfl⟩ := h2
          cases r with
          | obj h z b => cases b with
            | tup r =>
              rw [D.plain] at p
              rw [D.py]
              exact .tup (.inl (.inl h.tup)) (ih.2 _ _ r p)
        · exact flat _ v d r p (fun ds e => h1 ⟨ds, e⟩) fun ds e => h2 ⟨ds, e⟩
    exact ⟨one, lists (n + 1) one⟩
theorem Rep.dp {n : Nat} {v : V} {d : D} (h : Rep gv H Z c v d) (p : D.plain n d = true) : Dp K H v d.py := (dp_all n).1 v d h p
theorem Reps.dp {n : Nat} {vs : List V} {ds : List D} (h : Reps gv H Z c vs ds) (p : D.plains n ds = true) : DpAll K H vs (D.pys ds) := (dp_all n).2 ds vs h p
theorem Vr.dp {n : Nat} {v : V} {d : D} (h : Vr gv H Z c v d) (p : D.plain n d = true) : Dp K H v d.py := by
  cases h with
  | rep r => exact r.dp p
  | top h m b => cases b with
    | lst r =>
      cases n with
      | zero => simp [D.plain] at p
      | succ n =>
        rw [D.plain] at p
        rw [D.py]
        exact .lst (.inl (.inl h.lst)) (r.dp p)
    | tup r => exact m.elim
    | dK e r => cases n <;> simp [D.plain] at p
    | dT e r => cases n <;> simp [D.plain] at p
end
/-- texts, kept apart: any signs -/
def gEq (neg : Bool) (S : Store) (d d' : D) : Option D := match der S d, der S d' with
  | .str x, .str y => some (.bl (if neg then !decide (x = y) else decide (x = y)))
  | e, e' => if D.plain 64 e && D.plain 64 e' then some (.bl (if neg then !D.eqv e e' else D.eqv e e')) else none
theorem eq_ok : Op2 G (fun x y H Q => rEq x y H Q ∨ rEqD X.K x y H Q) (gEq false) .z := by
  intro pu H Z c S v w d d' e Q s h h' hg q
  have h := h.der s
  have h' := h'.der s
  unfold gEq at hg
  split at hg
  · rename_i x y e1 e2
    cases hg
    rw [e1] at h; rw [e2] at h'
    rw [h.str, h'.str]
    refine .inl ⟨rfl, ?_⟩
    have : decide (V.str x = V.str y) = decide (x = y) := by simp
    rw [this]
    exact same_ret (by decide) s (.bl _) q
  · split at hg
    · rename_i hp
      rw [Bool.and_eq_true] at hp
      cases hg
      refine .inr ⟨_, _, h.dp hp.1, h'.dp hp.2, shaped_of hp.1, shaped_of hp.2, ?_⟩
      rw [eqv_py 64 64 _ _ hp.1 hp.2]
      exact same_ret (by decide) s (.bl _) q
    · cases hg
theorem ne_ok : Op2 G (fun x y H Q => rNe x y H Q ∨ rNeD X.K x y H Q) (gEq true) .z := by
  intro pu H Z c S v w d d' e Q s h h' hg q
  have h := h.der s
  have h' := h'.der s
  unfold gEq at hg
  split at hg
  · rename_i x y e1 e2
    cases hg
    rw [e1] at h; rw [e2] at h'
    rw [h.str, h'.str]
    refine .inl ⟨rfl, ?_⟩
    have : decide (V.str x = V.str y) = decide (x = y) := by simp
    rw [this]
    exact same_ret (by decide) s (.bl _) q
  · split at hg
    · rename_i hp
      rw [Bool.and_eq_true] at hp
      cases hg
      refine .inr ⟨_, _, h.dp hp.1, h'.dp hp.2, shaped_of hp.1, shaped_of hp.2, ?_⟩
      rw [eqv_py 64 64 _ _ hp.1 hp.2]
      exact same_ret (by decide) s (.bl _) q
    · cases hg
end VI
end

section
set_option Elab.async false
set_option linter.all false
set_option autoImplicit false
set_option maxRecDepth 100000
/-! VI, 4: more operations on data -/
namespace VI
open PySem PySem.Spec L2
variable {G : Gc} {X : Cx}

/-! ### dicts -/
def isKey : D → Bool
  | .int _ => true
  | .str _ => true
  | _ => false
def tKey : D → Bool
  | .tup xs => xs.all isKey
  | _ => false
def aKey (t : Bool) (d : D) : Bool := if t then tKey d else isKey d
def dlook : List D → List D → D → Option D
  | k :: ks, v :: vs, x => if D.beq k x then some v else dlook ks vs x
  | _, _, _ => none
/-- in its place, or at the end -/
def dput (ks vs : List D) (x y : D) : List D × List D :=
  if ks.any (fun k => D.beq k x) then (ks, List.zipWith (fun k v => if D.beq k x then y else v) ks vs) else (ks ++ [x], vs ++ [y])
theorem beq_keyD (a b : Key) : D.beq (keyD a) (keyD b) = decide (a = b) := by
  cases a with
  | inl i => cases b with
    | inl j => simp only [keyD, D.beq, Sum.inl.injEq]; rw [Bool.eq_iff_iff]; simp
    | inr y => simp [keyD, D.beq]
  | inr x => cases b with
    | inl j => simp [keyD, D.beq]
    | inr y => simp [keyD, D.beq]
theorem beqs_keyD : ∀ a b : List Key, D.beqs (a.map keyD) (b.map keyD) = decide (a = b)
  | [], [] => by simp [D.beqs]
  | [], _ :: _ => by simp [D.beqs]
  | _ :: _, [] => by simp [D.beqs]
  | x :: a, y :: b => by
    rw [List.map_cons, List.map_cons, D.beqs, beq_keyD, beqs_keyD a b, Bool.eq_iff_iff]
    simp
theorem isKey_of {d : D} (h : isKey d = true) : ∃ k : Key, d = keyD k := by
  cases d with
  | int i => exact ⟨.inl i, rfl⟩
  | str x => exact ⟨.inr x, rfl⟩
  | _ => cases h
theorem isKeys_of : ∀ {ds : List D}, ds.all isKey = true → ∃ ks : List Key, ds = ks.map keyD
  | [], _ => ⟨[], rfl⟩
  | d :: ds, h => by
    rw [List.all_cons, Bool.and_eq_true] at h
    obtain ⟨k, rfl⟩ := isKey_of h.1
    obtain ⟨ks, rfl⟩ := isKeys_of h.2
    exact ⟨k :: ks, rfl⟩
section
variable {gv : Gv} {H : Hp} {Z : Addr → Prop} {c : List Addr}
/-- κ: what the keys are -/
theorem look_of {κ : Type} [DecidableEq κ] {f : κ → D} (hf : ∀ a b, D.beq (f a) (f b) = decide (a = b)) (k : κ) : ∀ {kvs : List (κ × V)} {vs : List D}, Reps gv H Z c (kvs.map (·.2)) vs →
    match valV kvs k, dlook (kvs.map fun p => f p.1) vs (f k) with
    | some v, some d => Rep gv H Z c v d
    | none, none => True
    | _, _ => False
  | [], _, r => by cases r; simp [valV, dlook]
  | (k', v) :: kvs, _, r => by
    cases r with
    | cons r t =>
      rw [List.map_cons]
      simp only [dlook, hf]
      by_cases e : k' = k
      · subst e
        simp [valV]
        exact r
      · have ih := look_of hf k t
        simp only [decide_eq_false e, Bool.false_eq_true, if_false]
        have : valV ((k', v) :: kvs) k = valV kvs k := by simp [valV, List.find?_cons, e]
        rw [this]
        exact ih
theorem put_of {κ : Type} [DecidableEq κ] {f : κ → D} (hf : ∀ a b, D.beq (f a) (f b) = decide (a = b)) {k : κ} {w : V} {d : D} (rw' : Rep gv H Z c w d) {kvs : List (κ × V)} {vs : List D} (r : Reps gv H Z c (kvs.map (·.2)) vs) :
    (dput (kvs.map fun p => f p.1) vs (f k) d).1 = (putK kvs k w).map (fun p => f p.1) ∧ Reps gv H Z c ((putK kvs k w).map (·.2)) (dput (kvs.map fun p => f p.1) vs (f k) d).2 := by
  have ha : (kvs.map fun p => f p.1).any (fun x => D.beq x (f k)) = kvs.any fun kv => decide (kv.1 = k) := by
    rw [List.any_map]
    congr 1
    funext p
    exact hf _ _
  unfold dput putK
  rw [ha]
  by_cases h : (kvs.any fun kv => decide (kv.1 = k)) = true
  · rw [if_pos h, if_pos h]
    constructor
    · rw [List.map_map]
      refine List.map_congr_left fun p _ => ?_
      show f p.1 = f (if p.1 = k then (p.1, w) else p).1
      split <;> rfl
    · clear h ha
      induction kvs generalizing vs with
      | nil => cases r; exact .nil
      | cons p kvs ih =>
        cases r with
        | cons r t =>
          simp only [List.map_cons, List.zipWith_cons_cons, hf]
          refine .cons ?_ (ih t)
          by_cases e : p.1 = k
          · simp only [e, decide_true, if_true]; exact rw'
          · simp only [e, decide_false, if_false, Bool.false_eq_true]; exact r
  · rw [if_neg h, if_neg h]
    exact ⟨by simp, by rw [List.map_append]; exact r.append (.cons rw' .nil)⟩
end

def gDget (t : Bool) (ks vs : List D) (k : D) : Option D := if aKey t k then dlook ks vs k else none
theorem dget_of {gv : Gv} {H : Hp} {Z : Addr → Prop} {c : List Addr} {t : Bool} {ks vs : List D} {k : D} {w : V} {a : Addr} {o : HO} (ha : At H a o) (hb : Bd gv H Z c o (.dct t ks vs)) (hk : aKey t k = true) (hw : Vr gv H Z c w k) :
    ∃ r, DGet H a w r ∧ (match r, dlook ks vs k with
      | some v, some d => Rep gv H Z c v d
      | none, none => True
      | _, _ => False) := by
  cases hb with
  | dK e r =>
    rename_i kvs
    obtain ⟨k, rfl⟩ := isKey_of hk
    subst e
    have : w = kV k := by
      cases k with
      | inl i => exact hw.int
      | inr x => exact hw.str
    subst this
    exact ⟨_, .inl ⟨_, k, ha.rd, rfl, rfl⟩, look_of beq_keyD k r⟩
  | dT e r =>
    rename_i kvs
    cases k with
    | tup xs =>
      obtain ⟨k, rfl⟩ := isKeys_of (ds := xs) hk
      subst e
      obtain ⟨b, us, rfl, hb, rs, zz⟩ := hw.tup
      clear zz
      have hus : us = k.map kV := by
        clear hb hw r ha
        clear hk
        induction k generalizing us with
        | nil => cases rs; rfl
        | cons x k ih =>
          cases rs with
          | cons q t =>
            rw [List.map_cons, ih _ t]
            congr 1
            cases x with
            | inl i => exact (Vr.rep q).int
            | inr x => exact (Vr.rep q).str
      subst hus
      exact ⟨_, .inr ⟨_, k, b, ha.rd, rfl, hb, rfl⟩, look_of (f := fun k => D.tup (k.map keyD)) (fun a b => by rw [D.beq]; exact beqs_keyD a b) k r⟩
    | _ => cases hk

/-! ### len -/
def gLen (S : Store) : List D → Option D
  | [d] => (match der S d with
    | .lst xs => some (.int (xs.length : Nat))
    | .tup xs => some (.int (xs.length : Nat))
    | .str x => if x.length ≤ sizeLine then some (.int (x.length : Nat)) else none
    | .dct _ ks _ => some (.int (ks.length : Nat))
    | _ => none)
  | _ => none
theorem vws1 {gv : Gv} {H : Hp} {Z : Addr → Prop} {c : List Addr} {vs : List V} {d : D} (h : Vws gv H Z c vs [d]) : ∃ v, vs = [v] ∧ Vw gv H Z c v d := by
  cases h with
  | cons r t => cases t; exact ⟨_, rfl, r⟩
theorem vws2 {gv : Gv} {H : Hp} {Z : Addr → Prop} {c : List Addr} {vs : List V} {d e : D} (h : Vws gv H Z c vs [d, e]) : ∃ v w, vs = [v, w] ∧ Vw gv H Z c v d ∧ Vw gv H Z c w e := by
  cases h with
  | cons r t => obtain ⟨w, rfl, q⟩ := vws1 t; exact ⟨_, _, rfl, r, q⟩
theorem call_len_dKr : CallR X (.builtin "len") (fun xs H Q => ∃ p kvs, xs = [.ref p] ∧ Rd H p (.dK kvs) ∧ Q (.int (kvs.length : Nat)) H) := by
  intro pins s σ H xs us Q I r h
  obtain ⟨p, kvs, rfl, hq, q⟩ := h
  obtain ⟨u, rfl, ru⟩ := vals1 r
  cases ru
  exact d_len I hq fun t s' I' => ⟨.int kvs.length, H, I', ⟨t, rfl⟩, q⟩
theorem call_len_dTr : CallR X (.builtin "len") (fun xs H Q => ∃ (p : Addr) (kvs : List (List Key × V)), xs = [.ref p] ∧ Rd H p (.dT kvs) ∧ Q (.int ((kvs.length : Nat) : Int)) H) := by
  intro pins s σ H xs us Q I r h
  obtain ⟨p, kvs, rfl, hp, q⟩ := h
  obtain ⟨u, rfl, rx⟩ := vals1 r
  obtain rfl : u = .ref p := rx
  obtain ⟨z, hd, ys, rel, dd⟩ := dt_rd I.hok hp
  have hl : kvs.length = ys.length := Paired.length rel
  refine call_len_dictH hd dd (by rw [← hl]; rw [sizeLine_eq] at z; omega) ?_
  rw [← hl]
  exact ⟨.int ((kvs.length : Nat) : Int), H, I.tok _, ⟨_, rfl⟩, q⟩
def rLenAll (K : PySem.W.Frag) : List V → Hp → VK → Prop := fun xs H Q => (((∃ p ys, xs = [.ref p] ∧ (SqL K H p ys ∨ SqT K H p ys) ∧ Q (.int ys.length) H) ∨ (∃ z, xs = [.str z] ∧ z.length ≤ sizeLine ∧ Q (.int z.length) H)) ∨
  (∃ p kvs, xs = [.ref p] ∧ Rd H p (.dK kvs) ∧ Q (.int (kvs.length : Nat)) H)) ∨ (∃ (p : Addr) (kvs : List (List Key × V)), xs = [.ref p] ∧ Rd H p (.dT kvs) ∧ Q (.int ((kvs.length : Nat) : Int)) H)
theorem call_lenA : CallR X (.builtin "len") (rLenAll X.K) := ((call_len_seq.or call_len_str).or call_len_dKr).or call_len_dTr
theorem len_ok : OpN G (rLenAll X.K) gLen .z := by
  intro pu H Z c S vs ds e Q s h hg q
  unfold gLen at hg
  split at hg
  · rename_i d
    obtain ⟨v, rfl, h1⟩ := vws1 h
    have h := h1.der s
    split at hg
    · rename_i xs e1
      rw [e1] at h
      cases hg
      obtain ⟨a, vs, rfl, ha, rs⟩ := h.lst
      refine .inl (.inl (.inl ⟨a, vs, rfl, .inl (.inl (.inl ha)), ?_⟩))
      rw [rs.length]
      exact same_ret (by decide) s (.int _) q
    · rename_i xs e1
      rw [e1] at h
      cases hg
      obtain ⟨a, vs, rfl, ha, rs, _⟩ := h.tup
      refine .inl (.inl (.inl ⟨a, vs, rfl, .inr (.inl (.inl ha)), ?_⟩))
      rw [rs.length]
      exact same_ret (by decide) s (.int _) q
    · rename_i x e1
      rw [e1] at h
      split at hg
      · rename_i hl
        cases hg
        exact .inl (.inl (.inr ⟨x, by rw [h.str], hl, same_ret (by decide) s (.int _) q⟩))
      · cases hg
    · rename_i t ks vs e1
      rw [e1] at h
      cases hg
      obtain ⟨a, o, rfl, ha, b⟩ := h.dct
      cases b with
      | dK e r =>
        refine .inl (.inr ⟨a, _, rfl, ha.rd, ?_⟩)
        subst e
        rw [List.length_map] at q
        exact same_ret (by decide) s (.int _) q
      | dT e r =>
        refine .inr ⟨a, _, rfl, ha.rd, ?_⟩
        subst e
        rw [List.length_map] at q
        exact same_ret (by decide) s (.int _) q
    · cases hg
  · cases hg

/-! ### a[b] -/
theorem reps_atI {gv : Gv} {H : Hp} {Z : Addr → Prop} {c : List Addr} {vs : List V} {ds : List D} {i : Int} {d : D} (r : Reps gv H Z c vs ds) (h : atI ds i = some d) : ∃ v, atI vs i = some v ∧ Rep gv H Z c v d := by
  unfold atI at h ⊢
  rw [r.length]
  cases e : ixN ds.length i with
  | none => rw [e] at h; cases h
  | some j =>
    rw [e] at h
    exact r.get h
def gIx (S : Store) (d k : D) : Option D := match der S d with
  | .lst xs => (match k with
    | .int i => atI xs i
    | _ => none)
  | .tup xs => (match k with
    | .int i => atI xs i
    | _ => none)
  | .str x => (match k with
    | .int i => if x.length ≤ sizeLine then (atI x.cps.toList i).map fun c => .str ⟨#[c]⟩ else none
    | _ => none)
  | .dct t ks vs => gDget t ks vs k
  | _ => none
def rIxD : R2 := fun x y H Q => ∃ a v, x = .ref a ∧ DGet H a y (some v) ∧ Q v H
theorem ix_dict (hu : X.A.units + 1 < cLine) : IxR X rIxD := by
  intro value slice pins s σ H x y v u Q I rx ry h hs
  obtain ⟨a, w, rfl, g, q⟩ := h
  cases rx
  exact PyProof.Rows.tail_any (dict_typeIs I g) PySem.F.slot_dict_getitem.lookup (d_getItem hu I g ry fun w' s3 I3 rw' => ⟨w, H, I3, rw', q⟩) hs
theorem ix_ok : Op2 G (fun x y H Q => rIx X.K x y H Q ∨ rIxD x y H Q) gIx .z := by
  intro pu H Z c S v w d d' e Q s h h' hg q
  have hd := h.der s
  unfold gIx at hg
  split at hg
  · rename_i xs e1
    rw [e1] at hd
    split at hg
    · rename_i i
      obtain ⟨a, vs, rfl, ha, rs⟩ := hd.lst
      obtain ⟨u, hu, ru⟩ := reps_atI rs hg
      exact .inl (.inl ⟨a, vs, i, u, rfl, h'.vr.int, .inl (.inl ha), hu, same_ret (by decide) s ru q⟩)
    · cases hg
  · rename_i xs e1
    rw [e1] at hd
    split at hg
    · rename_i i
      obtain ⟨a, vs, rfl, ha, rs, _⟩ := hd.tup
      obtain ⟨u, hu, ru⟩ := reps_atI rs hg
      exact .inl (.inr (.inl ⟨a, vs, i, u, rfl, h'.vr.int, .inl (.inl ha), hu, same_ret (by decide) s ru q⟩))
    · cases hg
  · rename_i x e1
    rw [e1] at hd
    split at hg
    · rename_i i
      split at hg
      · rename_i hl
        rw [Option.map_eq_some_iff] at hg
        obtain ⟨cp, h1, rfl⟩ := hg
        exact .inl (.inr (.inr ⟨x, i, cp, hd.str, h'.vr.int, hl, h1, same_ret (by decide) s (.str _) q⟩))
      · cases hg
    · cases hg
  · rename_i t ks vs e1
    rw [e1] at hd
    unfold gDget at hg
    split at hg
    · rename_i hk
      obtain ⟨a, o, rfl, ha, b⟩ := hd.dct
      obtain ⟨r, g, hr⟩ := dget_of ha b hk h'.vr
      rw [hg] at hr
      cases r with
      | none => exact hr.elim
      | some u => exact .inr ⟨a, u, rfl, g, same_ret (by decide) s hr q⟩
    · cases hg
  · cases hg

/-! ### in, not in -/
def D.flat : D → Bool
  | .non => true
  | .bl _ => true
  | .int _ => true
  | .str _ => true
  | _ => false
theorem flat_of {gv : Gv} {H : Hp} {Z : Addr → Prop} {c : List Addr} {v : V} {d : D} (r : Rep gv H Z c v d) (f : d.flat = true) : flatV v = true := by
  cases r with
  | obj _ _ b => cases b <;> cases f
  | cell => cases f
  | fn => cases f
  | exc0 => cases f
  | exc1 => cases f
  | scr => cases f
  | scrK => cases f
  | scrZ => cases f
  | _ => rfl
theorem eqV_of {gv : Gv} {H : Hp} {Z : Addr → Prop} {c : List Addr} {v w : V} {d e : D} (r : Rep gv H Z c v d) (r' : Rep gv H Z c w e) (f : d.flat = true) (f' : e.flat = true) : eqV v w = D.eqv d e := by
  cases r with
  | obj _ _ b => cases b <;> cases f
  | cell => cases f
  | fn => cases f
  | exc0 => cases f
  | exc1 => cases f
  | scr => cases f
  | scrK => cases f
  | scrZ => cases f
  | _ => cases r' with
    | obj _ _ b => cases b <;> cases f'
    | cell => cases f'
    | fn => cases f'
    | exc0 => cases f'
    | exc1 => cases f'
    | scr => cases f'
    | scrK => cases f'
    | scrZ => cases f'
    | _ => simp [eqV, D.eqv]
theorem flats_of {gv : Gv} {H : Hp} {Z : Addr → Prop} {c : List Addr} : ∀ {vs : List V} {ds : List D}, Reps gv H Z c vs ds → ds.all D.flat = true → vs.all flatV = true
  | _, _, .nil, _ => rfl
  | _, _, .cons r t, f => by
    rw [List.all_cons, Bool.and_eq_true] at f ⊢
    exact ⟨flat_of r f.1, flats_of t f.2⟩
theorem inV_of {gv : Gv} {H : Hp} {Z : Addr → Prop} {c : List Addr} {v : V} {d : D} (r : Rep gv H Z c v d) (f : d.flat = true) : ∀ {vs : List V} {ds : List D}, Reps gv H Z c vs ds → ds.all D.flat = true → inV v vs = ds.any fun z => D.eqv z d
  | _, _, .nil, _ => rfl
  | _, _, .cons q t, g => by
    rw [List.all_cons, Bool.and_eq_true] at g
    have ih := inV_of r f t g.2
    unfold inV at ih ⊢
    rw [List.any_cons, List.any_cons, ih, eqV_of q r g.1 f]
def gIn (neg : Bool) (S : Store) (d d' : D) : Option D := match der S d' with
  | .str y => (match d with
    | .str x => (match x.cps.toList with
      | [k] => some (.bl (if neg then !decide (k ∈ y.cps.toList) else decide (k ∈ y.cps.toList)))
      | _ => none)
    | _ => none)
  | .lst ys => if d.flat && ys.all D.flat then some (.bl (if neg then !ys.any (fun z => D.eqv z d) else ys.any fun z => D.eqv z d)) else
    (if D.plain 64 (der S d) && D.plain 64 (.lst ys) then some (.bl (if neg then !ys.any (fun z => D.eqv z (der S d)) else ys.any fun z => D.eqv z (der S d))) else none)
  | .tup ys => if d.flat && ys.all D.flat then some (.bl (if neg then !ys.any (fun z => D.eqv z d) else ys.any fun z => D.eqv z d)) else none
  | .dct t ks vs => if aKey t d then some (.bl (if neg then !(dlook ks vs d).isSome else (dlook ks vs d).isSome)) else none
  | _ => none
theorem any_eqv_py {n m : Nat} {d : D} (hd : D.plain m d = true) : ∀ {ys : List D}, D.plains n ys = true → (D.pys ys).any (fun z => PyData.eqv z d.py) = ys.any fun z => D.eqv z d
  | [], _ => rfl
  | y :: ys, h => by
    rw [D.plains, Bool.and_eq_true] at h
    rw [D.pys, List.any_cons, List.any_cons, any_eqv_py hd h.2, eqv_py n m y d h.1 hd]
def rInAll (K : PySem.W.Frag) (neg : Bool) : R2 := fun x y H Q => (((∃ (c : Nat) (z : Str), x = .str ⟨#[c]⟩ ∧ y = .str z ∧ Q (.bl (if neg then !decide (c ∈ z.cps.toList) else decide (c ∈ z.cps.toList))) H) ∨ rIn K neg x y H Q) ∨
  (∃ d ds, Dp K H x d ∧ Dp K H y (.list ds) ∧ SeqAt.shaped d = true ∧ SeqAt.shaped (.list ds) = true ∧ Q (.bl (if neg then !ds.any (fun z => PyData.eqv z d) else ds.any fun z => PyData.eqv z d)) H)) ∨
  (∃ a o, y = .ref a ∧ DGet H a x o ∧ Q (.bl (if neg then !o.isSome else o.isSome)) H)
theorem op_inA (hu : X.A.units + 65 < cLine) : OpR X (compareOp .In) (rInAll X.K false) := by
  refine OpR.or (OpR.or (OpR.or op_in_sign op_in_seq) (op_inD hu)) ?_
  intro pins s σ H x y v u Q I rx ry h
  obtain ⟨a, o, rfl, g, q⟩ := h
  cases ry
  exact d_in (by omega) I g rx fun s' I' => ⟨.bl o.isSome, H, I', rfl, q⟩
theorem op_notInA (hu : X.A.units + 65 < cLine) : OpR X (compareOp .NotIn) (rInAll X.K true) := by
  refine OpR.or (OpR.or (OpR.or op_notIn_sign op_notIn_seq) (op_notInD hu)) ?_
  intro pins s σ H x y v u Q I rx ry h
  obtain ⟨a, o, rfl, g, q⟩ := h
  cases ry
  exact d_notIn (by omega) I g rx fun s' I' => ⟨.bl (!o.isSome), H, I', rfl, q⟩
theorem in_ok (neg : Bool) : Op2 G (rInAll X.K neg) (gIn neg) .z := by
  intro pu H Z c S v w d d' e Q s h h' hg q
  have hd := h'.der s
  unfold gIn at hg
  split at hg
  · rename_i y e1
    rw [e1] at hd
    split at hg
    · rename_i x
      split at hg
      · rename_i k e2
        cases hg
        refine .inl (.inl (.inl ⟨k, y, ?_, hd.str, same_ret (by decide) s (.bl _) q⟩))
        rw [h.vr.str]
        cases x with
        | mk cps =>
          have : cps = #[k] := by
            apply Array.toList_inj.mp
            exact e2
          rw [this]
      · cases hg
    · cases hg
  · rename_i ys e1
    rw [e1] at hd
    obtain ⟨a, vs, rfl, ha, rs⟩ := hd.lst
    split at hg
    · rename_i hf
      rw [Bool.and_eq_true] at hf
      cases hg
      have rp : Rep G.gv H Z c v d := h.vr.rp (by cases d <;> first | trivial | exact absurd hf.1 Bool.false_ne_true)
      refine .inl (.inl (.inr ⟨a, vs, rfl, .inl (.inl (.inl ha)), flat_of rp hf.1, flats_of rs hf.2, ?_⟩))
      rw [inV_of rp hf.1 rs hf.2]
      exact same_ret (by decide) s (.bl _) q
    · split at hg
      · rename_i hf
        rw [Bool.and_eq_true] at hf
        cases hg
        have hl := hd.dp (K := X.K) hf.2
        have hx := (h.der s).dp (K := X.K) hf.1
        refine .inl (.inr ⟨_, D.pys ys, hx, by rw [D.py] at hl; exact hl, shaped_of hf.1, by have := shaped_of hf.2; rw [D.py] at this; exact this, ?_⟩)
        rw [any_eqv_py (n := 63) hf.1 (by have := hf.2; rw [D.plain] at this; exact this)]
        exact same_ret (by decide) s (.bl _) q
      · cases hg
  · rename_i ys e1
    rw [e1] at hd
    obtain ⟨a, vs, rfl, ha, rs, _⟩ := hd.tup
    split at hg
    · rename_i hf
      rw [Bool.and_eq_true] at hf
      cases hg
      have rp : Rep G.gv H Z c v d := h.vr.rp (by cases d <;> first | trivial | exact absurd hf.1 Bool.false_ne_true)
      refine .inl (.inl (.inr ⟨a, vs, rfl, .inr (.inl (.inl ha)), flat_of rp hf.1, flats_of rs hf.2, ?_⟩))
      rw [inV_of rp hf.1 rs hf.2]
      exact same_ret (by decide) s (.bl _) q
    · cases hg
  · rename_i t ks vs e1
    rw [e1] at hd
    split at hg
    · rename_i hk
      cases hg
      obtain ⟨a, o, rfl, ha, b⟩ := hd.dct
      obtain ⟨r, g, hr⟩ := dget_of ha b hk h.vr
      refine .inr ⟨a, r, rfl, g, ?_⟩
      have e3 : r.isSome = (dlook ks vs d).isSome := by
        cases r <;> cases hq : dlook ks vs d <;> rw [hq] at hr <;> first | rfl | exact hr.elim
      rw [e3]
      exact same_ret (by decide) s (.bl _) q
    · cases hg
  · cases hg
end VI
end

section
set_option Elab.async false
set_option linter.all false
set_option autoImplicit false
set_option maxRecDepth 100000
/-! VI, 5: calls of built-ins, slices -/
namespace VI
open PySem PySem.Spec L2
variable {G : Gc} {X : Cx}

/-! ### isinstance -/
inductive Ty where
  | int | bool | str | list | tuple | dict
  deriving DecidableEq
def Ty.name : Ty → String
  | .int => "int" | .bool => "bool" | .str => "str" | .list => "list" | .tuple => "tuple" | .dict => "dict"
/-- none: of NoneType -/
def tyD (S : Store) (d : D) : Option (Option Ty) := match der S d with
  | .non => some none
  | .bl _ => some (some .bool)
  | .int _ => some (some .int)
  | .str _ => some (some .str)
  | .lst _ => some (some .list)
  | .tup _ => some (some .tuple)
  | .dct _ _ _ => some (some .dict)
  | _ => none
def isTy (o : Option Ty) (c : Ty) : Bool := decide (o = some c) || (decide (o = some .bool) && decide (c = .int))
def tyN : Option Ty → String
  | none => "NoneType"
  | some t => t.name
theorem kitB_ty (o : Option Ty) (c : Ty) : kitB (tyN o) c.name = some (isTy o c) := by
  rcases o with _ | o
  · cases c <;> decide +kernel
  · cases o <;> cases c <;> decide +kernel
def gIsi (ts : List Ty) (S : Store) : List D → Option D
  | d :: _ => (tyD S d).map fun o => .bl (ts.any (isTy o))
  | _ => none
theorem kitAny_ty {K : PySem.W.Frag} (o : Option Ty) : ∀ ts : List Ty, PySem.W.kitAny K (.type (tyN o)) (ts.map fun t => .type t.name) = some (ts.any (isTy o))
  | [] => rfl
  | t :: ts => by
    rw [List.map_cons, List.any_cons]
    refine kitAny_cons (kit_ty (kitB_ty o t)) (fun h => ?_) fun h => by rw [h]; rfl
    rw [h, Bool.false_or]
    exact kitAny_ty o ts
/-- a value's type; a locked dict with tuple keys beside -/
inductive TyY (K : PySem.W.Frag) (H : Hp) : V → Value → Prop where
  | x {v : V} {t : Value} (h : TyX K H v t) : TyY K H v t
  | fDictT {a : Addr} {o : Obj} {kvs : List (List Key × V)} (e : H a = some (.frz o (.dT kvs))) : TyY K H (.ref a) (.type "dict")
theorem kit_ofY {pins : List (Addr × Obj)} {σ : St} {H : Hp} {s : Shared} {x : V} {u t : Value} (I : Inv X pins σ H s) (rx : RelV x u) (ty : TyY X.K H x t) : ∃ P : Heap → Prop, PySem.W.KitX X.K u t P ∧ P s.heap ∧ u ≠ .builtin "__main__.__loader__#opaque" := by
  cases ty with
  | x h => exact kit_of I rx h
  | @fDictT a ob kvs ea =>
    cases (show u = Value.ref a from rx)
    obtain ⟨_, _, _, xs, _, o, es, ep, h1, h2, _⟩ := (show ObjOk X.prog X.w H s.heap a (.frz ob (.dT kvs)) from I.hok a _ ea)
    exact ⟨_, PySem.W.kitx_dict, ⟨o, h1, h2.1⟩, fun z => nomatch z⟩
def rIsiY (K : PySem.W.Frag) : List V → Hp → VK → Prop := fun xs H Q => ∃ (x c : V) (t u : Value) (b : Bool), xs = [x, c] ∧ ClsV c u ∧ TyY K H x t ∧ PySem.W.kitOne K t u = some b ∧ Q (.bl b) H
def rIsiTY (K : PySem.W.Frag) : List V → Hp → VK → Prop := fun xs H Q => ∃ (x : V) (tp : Addr) (cs : List V) (t : Value) (us : List Value) (b : Bool), xs = [x, .ref tp] ∧ H tp = some (.tup cs) ∧ Paired ClsV cs us ∧ TyY K H x t ∧ PySem.W.kitAny K t us = some b ∧ Q (.bl b) H
theorem call_isiY : CallR X (.builtin "isinstance") (rIsiY X.K) := by
  intro pins s σ H xs us Q I r h
  obtain ⟨x, c, t, u, b, rfl, k, ty, e, q⟩ := h
  obtain ⟨u1, u2, rfl, r1, r2⟩ := vals2 r
  have e2 := k.eq r2
  subst e2
  obtain ⟨P, Z, p, hx⟩ := kit_ofY I r1 ty
  exact PySem.W.kia_one Z I.kIn p e hx fun tk => ⟨.bl b, H, I.tok tk, rfl, q⟩
theorem call_isiTY : CallR X (.builtin "isinstance") (rIsiTY X.K) := by
  intro pins s σ H xs us Q I r h
  obtain ⟨x, tp, cs, t, ws, b, rfl, hT, k, ty, e, q⟩ := h
  obtain ⟨u1, u2, rfl, r1, r2⟩ := vals2 r
  cases (show u2 = Value.ref tp from r2)
  obtain ⟨P, Z, p, hx⟩ := kit_ofY I r1 ty
  obtain ⟨_, its, rv, o, h1, h2, n, h3⟩ := (show ObjOk X.prog X.w H s.heap tp (.tup cs) from I.hok tp _ hT)
  have e3 := ClsV.all k rv
  subst e3
  obtain ⟨oc, od, dt, sl⟩ := o
  simp only at h2 h3
  subst h2 h3
  exact PySem.W.kia_tup Z I.kIn p h1 e hx fun tk => ⟨.bl b, H, I.tok tk, rfl, q⟩
theorem tyX_of {K : PySem.W.Frag} {gv : Gv} {H : Hp} {Z : Addr → Prop} {c : List Addr} {S : Store} {v : V} {d : D} {o : Option Ty} (h : Vr gv H Z c v (der S d)) (e : tyD S d = some o) : TyY K H v (.type (tyN o)) := by
  unfold tyD at e
  split at e <;> cases e <;> rename_i e1 <;> rw [e1] at h
  · rw [h.non]; exact .x (.base .non)
  · rw [h.bl]; exact .x (.base (.bl _))
  · rw [h.int]; exact .x (.base (.int _))
  · rw [h.str]; exact .x (.base (.str _))
  · obtain ⟨a, vs, rfl, ha, _⟩ := h.lst; exact .x (.base (.lst ha))
  · obtain ⟨a, vs, rfl, ha, _⟩ := h.tup; exact .x (.base (.tup ha))
  · obtain ⟨a, o, rfl, ha, b⟩ := h.dct
    cases b with
    | dK => rcases ha with ha | ⟨_, ob, ha⟩
            · exact .x (.base (.dK ha))
            · exact .x (.fDict ha)
    | dT => rcases ha with ha | ⟨_, ob, ha⟩
            · exact .x (.base (.dT ha))
            · exact .fDictT ha
theorem clsVs (ts : List Ty) : Paired ClsV (ts.map fun t => V.ty t.name) (ts.map fun t => Value.type t.name) := by
  induction ts with
  | nil => exact .nil
  | cons t ts ih => exact .cons (.ty _) ih
def gIsi1 (ts : List Ty) (S : Store) (d : D) : Option D := (tyD S d).map fun o => .bl (ts.any (isTy o))
theorem isi1_ok (K : PySem.W.Frag) (t : Ty) : Op1 G (fun x H Q => rIsiY K [x, .ty t.name] H Q) (gIsi1 [t]) .z := by
  intro pu H Z c S v d e Q s h hg q
  unfold gIsi1 at hg
  rw [Option.map_eq_some_iff] at hg
  obtain ⟨o, ho, rfl⟩ := hg
  refine ⟨v, .ty t.name, .type (tyN o), .type t.name, isTy o t, rfl, .ty _, tyX_of (h.der s) ho, kit_ty (kitB_ty o t), ?_⟩
  have : [t].any (isTy o) = isTy o t := by simp
  rw [this] at q
  exact same_ret (by decide) s (.bl _) q
theorem isiT_ok (K : PySem.W.Frag) (ts : List Ty) : Op1 G (fun x H Q => (ts.map fun t => V.ty t.name).length ≤ sizeLine ∧ ∀ p, H p = none → rIsiTY K [x, .ref p] (upd H p (.tup (ts.map fun t => V.ty t.name))) Q) (fun S d => if ts.length ≤ 1000 then gIsi1 ts S d else none) .z := by
  intro pu H Z c S v d e Q s h hg q
  split at hg
  · rename_i hl
    unfold gIsi1 at hg
    rw [Option.map_eq_some_iff] at hg
    obtain ⟨o, ho, rfl⟩ := hg
    refine ⟨by rw [List.length_map, sizeLine_eq]; omega, fun p hp => ?_⟩
    have a : Adv pu H Z c (upd H p (.tup (ts.map fun t => V.ty t.name))) Z c := Adv.new hp
    have s' := s.new (o := .tup (ts.map fun t => V.ty t.name)) hp
    refine ⟨v, p, _, .type (tyN o), _, _, rfl, upd_same, clsVs ts, tyX_of ((h.mono a s).der s') ho, kitAny_ty o ts, ?_⟩
    exact q _ _ Z a s' (.bl _)
  · cases hg
/-- names of built-in classes, as arguments -/
def isNames (sc : Scope) : List Expr → List Ty → Bool
  | [], [] => true
  | .Name x _ :: es, t :: ts => decide (x = Str.ofString t.name) && decide (sc.names.lookup x = some .globalImplicit) && isNames sc es ts
  | _, _ => false
theorem boot_ty (t : Ty) : bootBuiltins (Str.ofString t.name) = some (.type t.name) ∧ Str.ofString t.name ≠ "__name__" ∧ (Str.ofString t.name == ("__debug__" : Str)) = false := by
  cases t <;> refine ⟨by decide +kernel, by decide, by decide⟩
theorem pe_ty {x : Str} {p : Pos} {t : Ty} (hb : ∀ t : Ty, X.mg (Str.ofString t.name) = none) (h1 : x = Str.ofString t.name) (h2 : X.env.scope.names.lookup x = some .globalImplicit) : PE X (.Name x p) (tC (.ty t.name)) := by
  subst h1
  obtain ⟨b1, b2, b3⟩ := boot_ty t
  exact pe_bltn h2 (hb t) b1 rfl b2 b3
theorem pa_names (hb : ∀ t : Ty, X.mg (Str.ofString t.name) = none) : ∀ (es : List Expr) (ts : List Ty), isNames X.env.scope es ts = true → PA X es fun _ H Q => Q (ts.map fun t => V.ty t.name) H
  | [], [], _ => pa_nil
  | [], _ :: _, h => by simp [isNames] at h
  | e :: es, [], h => by cases e <;> simp [isNames] at h
  | e :: es, t :: ts, h => by
    cases e with
    | Name x p =>
      simp only [isNames, Bool.and_eq_true, decide_eq_true_eq] at h
      obtain ⟨⟨h1, h2⟩, h3⟩ := h
      refine (pa_cons (pe_ty hb h1 h2) (pa_names hb es ts h3) rfl).impD fun σ H Q q => ?_
      exact q
    | _ => simp [isNames] at h

/-! ### list(x), tuple(x) -/
def gList (S : Store) : List D → Option D
  | [d] => (match der S d with
    | .lst xs => some (.lst xs)
    | .tup xs => some (.lst xs)
    | .dct _ ks _ => some (.lst ks)
    | .scr ns => some (.lst (ns.map D.int))
    | _ => none)
  | _ => none
theorem reps_ints {gv : Gv} {H : Hp} {Z : Addr → Prop} {c : List Addr} : ∀ ns : List Int, Reps gv H Z c (ns.map V.int) (ns.map D.int)
  | [] => .nil
  | n :: ns => .cons (.int n) (reps_ints ns)
theorem reps_keys {gv : Gv} {H : Hp} {Z : Addr → Prop} {c : List Addr} : ∀ ks : List Key, Reps gv H Z c (ks.map kV) (ks.map keyD)
  | [] => .nil
  | .inl i :: ks => .cons (.int i) (reps_keys ks)
  | .inr x :: ks => .cons (.str x) (reps_keys ks)

def rListDr : List V → Hp → VK → Prop := fun xs H Q => ∃ p kvs, xs = [.ref p] ∧ Rd H p (.dK kvs) ∧ ∀ q, H q = none → Q (.ref q) (upd H q (.lst (kvs.map fun kv => kV kv.1)))
theorem call_list_dKr (hc : X.calm = true) : CallR X (.type "list") rListDr := by
  intro pins s σ H xs us Q I r h
  obtain ⟨p, kvs, e, hk, q⟩ := h
  subst e
  obtain ⟨u, eu, rx⟩ := vals1 r
  subst eu
  obtain rfl : u = Value.ref p := rx
  obtain ⟨z, lo, vs, rk, hd⟩ := dk_rd I.hok hk
  obtain ⟨ep, hat⟩ := hd.dictAt
  have hl : kvs.length = vs.length := Paired.length rk
  refine PySem.W.kdl_call (PySem.W.kdl_dict (knd := mixKind X.prog X.w) (kvs := vs) (ep := ep) lo) (I.ok.hd hc) hat (by rw [← hl]; exact z) fun h' tk acc' c' hkeep hS hacc => ?_
  refine ⟨.ref s.heap.objs.size, upd H s.heap.objs.size (.lst (kvs.map fun kv => kV kv.1)), I.laid hkeep (Nat.le_refl _) (show ObjOk X.prog X.w _ _ _ (.lst (kvs.map fun kv => kV kv.1)) from ⟨?_, acc'.toList, c', ?_, ?_⟩), rfl, q _ (I.hok.fresh (Nat.le_refl _))⟩
  · rw [List.length_map]; exact z
  · have el : acc'.toList.length = acc'.size := by simp
    refine vals_of_at (by rw [List.length_map, el, hacc.1, hl]) fun j x w h1 h2 => ?_
    obtain ⟨k, y, hky, hi⟩ := hacc.2 j w (by rw [← Array.getElem?_toList]; exact h2)
    have e1 : (kvs.map (·.1))[j]? = some k := by
      rw [KV.keys rk, List.getElem?_map, hky] <;> rfl
    have e2 : (kvs.map fun kv => kV kv.1)[j]? = some (kV k) := by
      have e3 : (kvs.map fun kv => kV kv.1) = (kvs.map (·.1)).map kV := by rw [List.map_map] <;> rfl
      rw [e3, List.getElem?_map, e1] <;> rfl
    rw [e2] at h1
    cases h1
    exact keyIs_rel hi
  · rw [Array.toArray_toList]; exact hS
def rListAll (K : PySem.W.Frag) : List V → Hp → VK → Prop := fun xs H Q => ((∃ p ys, xs = [.ref p] ∧ (SqL K H p ys ∨ SqT K H p ys) ∧ ∀ l, H l = none → Q (.ref l) (upd H l (.lst ys))) ∨ rListDr xs H Q) ∨
  (∃ d kvs, xs = [V.ref d] ∧ Rd H d (.dT kvs) ∧ ∀ p bs, H p = none → IsKeys H kvs bs → Q (.ref p) (upd H p (.lst (bs.map V.ref))))
theorem call_listA (hc : X.calm = true) : CallR X (.type "list") (rListAll X.K) := (call_list_of.or (call_list_dKr hc)).or (call_list_dT hc)
theorem reps_tkeys {gv : Gv} {H : Hp} {Z : Addr → Prop} {c : List Addr} {kvs : List (List Key × V)} {bs : List Addr} (h : IsKeys H kvs bs) : Reps gv H Z c (bs.map V.ref) (kvs.map fun p => D.tup (p.1.map keyD)) := by
  unfold IsKeys at h
  induction h with
  | nil => exact .nil
  | cons r t ih => exact .cons (.obj (.inl r) (.inr trivial) (.tup (reps_keys _))) ih
theorem list_ok (hq : ∀ (a : Addr) (ns : List Int) (H : Hp), G.gv.q a ns → SqL X.K H a (ns.map V.int)) : OpN G (rListAll X.K) gList .o := by
  intro pu H Z c S vs ds e Q s h hg q
  unfold gList at hg
  split at hg
  · rename_i d
    obtain ⟨v, rfl, h1⟩ := vws1 h
    have h := h1.der s
    split at hg
    · rename_i xs e1
      rw [e1] at h
      cases hg
      obtain ⟨a, vs, rfl, ha, rs⟩ := h.lst
      exact .inl (.inl ⟨a, vs, rfl, .inl (.inl (.inl ha)), fun p hp => q _ _ Z (Adv.new hp) (s.new hp) (RK.newO (o := .lst vs) hp s trivial (.lst rs))⟩)
    · rename_i xs e1
      rw [e1] at h
      cases hg
      obtain ⟨a, vs, rfl, ha, rs, _⟩ := h.tup
      exact .inl (.inl ⟨a, vs, rfl, .inr (.inl (.inl ha)), fun p hp => q _ _ Z (Adv.new hp) (s.new hp) (RK.newO (o := .lst vs) hp s trivial (.lst rs))⟩)
    · rename_i t ks ws e1
      rw [e1] at h
      cases hg
      obtain ⟨a, o, rfl, ha, b⟩ := h.dct
      cases b with
      | dK e r =>
        rename_i kvs
        refine .inl (.inr ⟨a, kvs, rfl, ha.rd, fun p hp => ?_⟩)
        refine q _ _ Z (Adv.new hp) (s.new hp) (RK.newO (o := .lst (kvs.map fun kv => kV kv.1)) hp s trivial (.lst ?_))
        have := reps_keys (gv := G.gv) (H := H) (Z := Z) (c := c) (kvs.map (·.1))
        rw [List.map_map, List.map_map] at this
        subst e
        exact this
      | dT e r =>
        rename_i kvs
        refine .inr ⟨a, kvs, rfl, ha.rd, fun p bs hp hk => ?_⟩
        subst e
        exact q _ _ Z (Adv.new hp) (s.new hp) (RK.newO (o := .lst (bs.map V.ref)) hp s trivial (.lst (reps_tkeys hk)))
    · rename_i ns e1
      rw [e1] at h
      cases hg
      obtain ⟨a, rfl, ha⟩ := h.scr
      have ha : SqL X.K H a (ns.map V.int) := ha.elim .inl (hq a ns H)
      exact .inl (.inl ⟨a, _, rfl, .inl ha, fun p hp => q _ _ Z (Adv.new hp) (s.new hp) (RK.newO (o := .lst (ns.map V.int)) hp s trivial (.lst (reps_ints ns)))⟩)
    · cases hg
  · cases hg
def gTuple (S : Store) : List D → Option D
  | [d] => (match der S d with
    | .lst xs => some (.tup xs)
    | .tup xs => some (.tup xs)
    | _ => none)
  | _ => none
theorem tuple_ok : OpN G (fun xs H Q => ∃ p ys, xs = [.ref p] ∧ ((SqL X.K H p ys ∧ ∀ l, H l = none → Q (.ref l) (upd H l (.tup ys))) ∨ (SqT X.K H p ys ∧ Q (.ref p) H))) gTuple .z := by
  intro pu H Z c S vs ds e Q s h hg q
  unfold gTuple at hg
  split at hg
  · rename_i d
    obtain ⟨v, rfl, h1⟩ := vws1 h
    have h := h1.der s
    split at hg
    · rename_i xs e1
      rw [e1] at h
      cases hg
      obtain ⟨a, vs, rfl, ha, rs⟩ := h.lst
      exact ⟨a, vs, rfl, .inl ⟨.inl (.inl ha), fun p hp => q _ _ Z (Adv.new hp) (s.new hp) (.obj (.inl upd_same) (.inr trivial) ((Bd.tup rs).mono ((Adv.new (pu := true) hp).grow s)))⟩⟩
    · rename_i xs e1
      rw [e1] at h
      cases hg
      obtain ⟨a, vs, rfl, ha, rs, r⟩ := h.tup
      exact ⟨a, vs, rfl, .inr ⟨.inl (.inl ha), same_ret (by decide) s r q⟩⟩
    · cases hg
  · cases hg

/-! ### max, min, sum, all, any, abs, int -/
def gMax2 : Store → List D → Option D
  | _, [.int i, .int j] => some (.int (if j > i then j else i))
  | _, _ => none
def gMin2 : Store → List D → Option D
  | _, [.int i, .int j] => some (.int (if j < i then j else i))
  | _, _ => none
theorem max2_ok : OpN G (fun xs H Q => ∃ i j, xs = [.int i, .int j] ∧ Q (.int (if j > i then j else i)) H) gMax2 .z := by
  intro pu H Z c S vs ds e Q s h hg q
  unfold gMax2 at hg
  split at hg
  · cases hg
    obtain ⟨v, w, rfl, h1, h2⟩ := vws2 h
    exact ⟨_, _, by rw [h1.vr.int, h2.vr.int], same_ret (by decide) s (.int _) q⟩
  · cases hg
theorem min2_ok : OpN G (fun xs H Q => ∃ i j, xs = [.int i, .int j] ∧ Q (.int (if j < i then j else i)) H) gMin2 .z := by
  intro pu H Z c S vs ds e Q s h hg q
  unfold gMin2 at hg
  split at hg
  · cases hg
    obtain ⟨v, w, rfl, h1, h2⟩ := vws2 h
    exact ⟨_, _, by rw [h1.vr.int, h2.vr.int], same_ret (by decide) s (.int _) q⟩
  · cases hg
def boolsD : List D → Option (List Bool)
  | [] => some []
  | .bl b :: ds => (boolsD ds).map (b :: ·)
  | _ => none
def intsD : List D → Option (List Int)
  | [] => some []
  | .int b :: ds => (intsD ds).map (b :: ·)
  | _ => none
theorem bools_of {gv : Gv} {H : Hp} {Z : Addr → Prop} {c : List Addr} : ∀ {vs : List V} {ds : List D} {bs : List Bool}, Reps gv H Z c vs ds → boolsD ds = some bs → vs = bs.map V.bl
  | _, _, _, .nil, e => by cases e; rfl
  | _, d :: ds, _, .cons r t, e => by
    cases d <;> first
      | (simp only [boolsD, Option.map_eq_some_iff] at e
         obtain ⟨bs, e1, rfl⟩ := e
         rw [(Vr.rep r).bl, bools_of t e1]; rfl)
      | (simp [boolsD] at e)
theorem intsD_of {gv : Gv} {H : Hp} {Z : Addr → Prop} {c : List Addr} : ∀ {vs : List V} {ds : List D} {bs : List Int}, Reps gv H Z c vs ds → intsD ds = some bs → vs = bs.map V.int
  | _, _, _, .nil, e => by cases e; rfl
  | _, d :: ds, _, .cons r t, e => by
    cases d <;> first
      | (simp only [intsD, Option.map_eq_some_iff] at e
         obtain ⟨bs, e1, rfl⟩ := e
         rw [(Vr.rep r).int, intsD_of t e1]; rfl)
      | (simp [intsD] at e)
def gBools (g : List Bool → D) (S : Store) : List D → Option D
  | [d] => (match der S d with
    | .lst xs => (boolsD xs).map g
    | _ => none)
  | _ => none
theorem all_ok : OpN G (rAll X.K) (gBools fun bs => .bl (bs.all id)) .z := by
  intro pu H Z c S vs ds e Q s h hg q
  unfold gBools at hg
  split at hg
  · obtain ⟨v, rfl, h1⟩ := vws1 h
    have h := h1.der s
    split at hg
    · rename_i xs e1
      rw [e1] at h
      rw [Option.map_eq_some_iff] at hg
      obtain ⟨bs, e2, rfl⟩ := hg
      obtain ⟨a, vs, rfl, ha, rs⟩ := h.lst
      have := bools_of rs e2
      subst this
      exact ⟨a, bs, rfl, .inl (.inl ha), same_ret (by decide) s (.bl _) q⟩
    · cases hg
  · cases hg
theorem any_ok : OpN G (rAny X.K) (gBools fun bs => .bl (bs.any id)) .z := by
  intro pu H Z c S vs ds e Q s h hg q
  unfold gBools at hg
  split at hg
  · obtain ⟨v, rfl, h1⟩ := vws1 h
    have h := h1.der s
    split at hg
    · rename_i xs e1
      rw [e1] at h
      rw [Option.map_eq_some_iff] at hg
      obtain ⟨bs, e2, rfl⟩ := hg
      obtain ⟨a, vs, rfl, ha, rs⟩ := h.lst
      have := bools_of rs e2
      subst this
      exact ⟨a, bs, rfl, .inl (.inl ha), same_ret (by decide) s (.bl _) q⟩
    · cases hg
  · cases hg
def gInts (g : List Int → Option D) (S : Store) : List D → Option D
  | [d] => (match der S d with
    | .lst xs => (intsD xs).bind g
    | _ => none)
  | _ => none
theorem sum_ok : OpN G (rSum X.K) (gInts fun ns => some (.int ns.sum)) .z := by
  intro pu H Z c S vs ds e Q s h hg q
  unfold gInts at hg
  split at hg
  · obtain ⟨v, rfl, h1⟩ := vws1 h
    have h := h1.der s
    split at hg
    · rename_i xs e1
      rw [e1] at h
      rw [Option.bind_eq_some_iff] at hg
      obtain ⟨bs, e2, e3⟩ := hg
      cases e3
      obtain ⟨a, vs, rfl, ha, rs⟩ := h.lst
      have := intsD_of rs e2
      subst this
      exact ⟨a, bs, rfl, .inl (.inl ha), same_ret (by decide) s (.int _) q⟩
    · cases hg
  · cases hg
def gMaxL (ns : List Int) : Option D := match ns with
  | [] => none
  | n :: ns => some (.int (ns.foldl max n))
def gMinL (ns : List Int) : Option D := match ns with
  | [] => none
  | n :: ns => some (.int (ns.foldl min n))
theorem foldl_max : ∀ (ns : List Int) (n : Int), (ns.foldl max n = n ∨ ns.foldl max n ∈ ns) ∧ n ≤ ns.foldl max n ∧ ∀ y ∈ ns, y ≤ ns.foldl max n
  | [], n => by simp
  | m :: ns, n => by
    obtain ⟨h1, h2, h3⟩ := foldl_max ns (max n m)
    rw [List.foldl_cons]
    refine ⟨?_, by omega, fun y hy => ?_⟩
    · rcases h1 with h1 | h1
      · rw [h1]
        by_cases h : n ≤ m
        · exact .inr (by rw [Int.max_eq_right h]; exact List.mem_cons_self)
        · exact .inl (Int.max_eq_left (by omega))
      · exact .inr (List.mem_cons_of_mem _ h1)
    · rcases List.mem_cons.mp hy with rfl | hy
      · omega
      · exact h3 y hy
theorem foldl_min : ∀ (ns : List Int) (n : Int), (ns.foldl min n = n ∨ ns.foldl min n ∈ ns) ∧ ns.foldl min n ≤ n ∧ ∀ y ∈ ns, ns.foldl min n ≤ y
  | [], n => by simp
  | m :: ns, n => by
    obtain ⟨h1, h2, h3⟩ := foldl_min ns (min n m)
    rw [List.foldl_cons]
    refine ⟨?_, by omega, fun y hy => ?_⟩
    · rcases h1 with h1 | h1
      · rw [h1]
        by_cases h : n ≤ m
        · exact .inl (Int.min_eq_left h)
        · exact .inr (by rw [Int.min_eq_right (by omega)]; exact List.mem_cons_self)
      · exact .inr (List.mem_cons_of_mem _ h1)
    · rcases List.mem_cons.mp hy with rfl | hy
      · omega
      · exact h3 y hy
theorem maxl_ok : OpN G (rMax X.K) (gInts gMaxL) .z := by
  intro pu H Z c S vs ds e Q s h hg q
  unfold gInts at hg
  split at hg
  · obtain ⟨v, rfl, h1⟩ := vws1 h
    have h := h1.der s
    split at hg
    · rename_i xs e1
      rw [e1] at h
      rw [Option.bind_eq_some_iff] at hg
      obtain ⟨bs, e2, e3⟩ := hg
      cases bs with
      | nil => cases e3
      | cons n ns =>
        cases e3
        obtain ⟨a, vs, rfl, ha, rs⟩ := h.lst
        have := intsD_of rs e2
        subst this
        refine ⟨a, n :: ns, rfl, .inl (.inl ha), by simp, fun m hm hle => ?_⟩
        obtain ⟨h1, h2, h3⟩ := foldl_max ns n
        have : m = ns.foldl max n := by
          apply Int.le_antisymm
          · rcases List.mem_cons.mp hm with rfl | hm
            · exact h2
            · exact h3 m hm
          · rcases h1 with h1 | h1
            · rw [h1]; exact hle n List.mem_cons_self
            · exact hle _ (List.mem_cons_of_mem _ h1)
        rw [this]
        exact same_ret (by decide) s (.int _) q
    · cases hg
  · cases hg
theorem minl_ok : OpN G (rMin X.K) (gInts gMinL) .z := by
  intro pu H Z c S vs ds e Q s h hg q
  unfold gInts at hg
  split at hg
  · obtain ⟨v, rfl, h1⟩ := vws1 h
    have h := h1.der s
    split at hg
    · rename_i xs e1
      rw [e1] at h
      rw [Option.bind_eq_some_iff] at hg
      obtain ⟨bs, e2, e3⟩ := hg
      cases bs with
      | nil => cases e3
      | cons n ns =>
        cases e3
        obtain ⟨a, vs, rfl, ha, rs⟩ := h.lst
        have := intsD_of rs e2
        subst this
        refine ⟨a, n :: ns, rfl, .inl (.inl ha), by simp, fun m hm hle => ?_⟩
        obtain ⟨h1, h2, h3⟩ := foldl_min ns n
        have : m = ns.foldl min n := by
          apply Int.le_antisymm
          · rcases h1 with h1 | h1
            · rw [h1]; exact hle n List.mem_cons_self
            · exact hle _ (List.mem_cons_of_mem _ h1)
          · rcases List.mem_cons.mp hm with rfl | hm
            · exact h2
            · exact h3 m hm
        rw [this]
        exact same_ret (by decide) s (.int _) q
    · cases hg
  · cases hg
def gAbs : Store → List D → Option D
  | _, [.int i] => some (.int (if i < 0 then -i else i))
  | _, _ => none
theorem abs_ok : OpN G (fun xs H Q => ∃ i, xs = [.int i] ∧ Q (.int (if i < 0 then -i else i)) H) gAbs .z := by
  intro pu H Z c S vs ds e Q s h hg q
  unfold gAbs at hg
  split at hg
  · cases hg
    obtain ⟨v, rfl, h1⟩ := vws1 h
    exact ⟨_, by rw [h1.vr.int], same_ret (by decide) s (.int _) q⟩
  · cases hg
def gInt1 : Store → List D → Option D
  | _, [.int i] => some (.int i)
  | _, _ => none
theorem int1_ok : OpN G (fun xs H Q => (∃ i, xs = [.int i] ∧ Q (.int i) H) ∨ ∃ k, xs = [.bl k] ∧ Q (.int (if k then 1 else 0)) H) gInt1 .z := by
  intro pu H Z c S vs ds e Q s h hg q
  unfold gInt1 at hg
  split at hg
  · cases hg
    obtain ⟨v, rfl, h1⟩ := vws1 h
    exact .inl ⟨_, by rw [h1.vr.int], same_ret (by decide) s (.int _) q⟩
  · cases hg
def gStr1 : Store → List D → Option D
  | _, [.int i] => if i.natAbs < 2 ^ 1000 then some (.str (toString i)) else none
  | _, _ => none
theorem str1_ok : OpN G (fun xs H Q => ∃ i, xs = [.int i] ∧ i.natAbs.log2 < 1920 ∧ Q (.str (toString i)) H) gStr1 .z := by
  intro pu H Z c S vs ds e Q s h hg q
  unfold gStr1 at hg
  split at hg
  · split at hg
    · rename_i i hl
      cases hg
      obtain ⟨v, rfl, h1⟩ := vws1 h
      refine ⟨_, by rw [h1.vr.int], ?_, same_ret (by decide) s (.str _) q⟩
      by_cases hz : i.natAbs = 0
      · rw [hz]; decide
      · have := (Nat.log2_lt hz (k := 1000)).mpr hl
        omega
    · cases hg
  · cases hg

/-! ### is None, -a -/
def gIsN (neg : Bool) (S : Store) (d d' : D) : Option D := match d' with
  | .non => (match der S d with
    | .non => some (.bl (!neg))
    | .fn _ => none
    | .exc _ _ => none
    | _ => some (.bl neg))
  | _ => none
theorem isN_val {gv : Gv} {H : Hp} {Z : Addr → Prop} {c : List Addr} {v : V} {d : D} (h : Vr gv H Z c v d) (h1 : d = .non → False) (h2 : ∀ j, d = .fn j → False) : v ≠ .non := by
  intro e
  subst e
  cases h with
  | rep r => cases r with
    | non => exact h1 rfl
    | fn => exact h2 _ rfl
theorem isN_ok : Op2 G (fun x y H Q => y = .non ∧ Q (.bl (decide (x = .non))) H) (gIsN false) .z := by
  intro pu H Z c S v w d d' e Q s h h' hg q
  unfold gIsN at hg
  split at hg
  · refine ⟨h'.vr.non, ?_⟩
    have hd := h.der s
    split at hg
    · rename_i e1
      rw [e1] at hd
      cases hg
      rw [hd.non]
      exact same_ret (by decide) s (.bl _) q
    · cases hg
    · cases hg
    · rename_i h1 h2 h3
      cases hg
      have : v ≠ .non := isN_val hd h1 h2
      rw [decide_eq_false this]
      exact same_ret (by decide) s (.bl _) q
  · cases hg
theorem notN_ok : Op2 G (fun x y H Q => y = .non ∧ Q (.bl (!decide (x = .non))) H) (gIsN true) .z := by
  intro pu H Z c S v w d d' e Q s h h' hg q
  unfold gIsN at hg
  split at hg
  · refine ⟨h'.vr.non, ?_⟩
    have hd := h.der s
    split at hg
    · rename_i e1
      rw [e1] at hd
      cases hg
      rw [hd.non]
      exact same_ret (by decide) s (.bl _) q
    · cases hg
    · cases hg
    · rename_i h1 h2 h3
      cases hg
      have : v ≠ .non := isN_val hd h1 h2
      rw [decide_eq_false this]
      exact same_ret (by decide) s (.bl _) q
  · cases hg
def gIsB (neg : Bool) (_ : Store) (d d' : D) : Option D := match d, d' with
  | .bl a, .bl b => some (.bl (if neg then !decide (a = b) else decide (a = b)))
  | _, _ => none
theorem isB_ok : Op2 G rIsB (gIsB false) .z := by
  intro pu H Z c S v w d d' e Q s h h' hg q
  unfold gIsB at hg
  split at hg
  · cases hg
    exact ⟨_, _, h.vr.bl, h'.vr.bl, same_ret (by decide) s (.bl _) q⟩
  · cases hg
theorem notB_ok : Op2 G rNotB (gIsB true) .z := by
  intro pu H Z c S v w d d' e Q s h h' hg q
  unfold gIsB at hg
  split at hg
  · cases hg
    exact ⟨_, _, h.vr.bl, h'.vr.bl, same_ret (by decide) s (.bl _) q⟩
  · cases hg
def gNeg (_ : Store) (d : D) : Option D := match d with
  | .int i => some (.int (-i))
  | _ => none
theorem neg_ok : Op1 G (rU fun i => .int (-i)) gNeg .z := by
  intro pu H Z c S v d e Q s h hg q
  unfold gNeg at hg
  split at hg
  · cases hg
    exact ⟨_, h.vr.int, same_ret (by decide) s (.int _) q⟩
  · cases hg

/-! ### slices -/
def cutL {α : Type} (xs : List α) (lo hi : Option Int) : List α := (xs.drop (HT.sIx xs.length 0 lo)).take (HT.sIx xs.length xs.length hi - HT.sIx xs.length 0 lo)
theorem cutL_all {α : Type} {xs : List α} {lo hi : Option Int} (h : HT.sIx xs.length 0 lo = 0 ∧ HT.sIx xs.length xs.length hi = xs.length) : cutL xs lo hi = xs := by
  unfold cutL
  rw [h.1, h.2]
  simp
/-- of a list: a list (own); of a text, a tuple: as it is -/
def gSlL (S : Store) (d : D) (lo hi : Option Int) : Option D := match der S d with
  | .lst xs => some (.lst (cutL xs lo hi))
  | _ => none
def gSlT (S : Store) (d : D) (lo hi : Option Int) : Option D := match der S d with
  | .tup xs => some (.tup (cutL xs lo hi))
  | .str x => if x.length ≤ sizeLine then some (.str (cutS x lo hi)) else none
  | .lst xs => some (.lst (cutL xs lo hi))
  | _ => none
def OpS (G : Gc) (r : V → Option Int → Option Int → Hp → VK → Prop) (g : Store → D → Option Int → Option Int → Option D) (k : Kd) : Prop :=
  ∀ (pu : Bool) (H : Hp) (Z : Addr → Prop) (c : List Addr) (S : Store) (v : V) (d e : D) (lo hi : Option Int) (Q : VK), StoreOk G.gv H Z c S → Vw G.gv H Z c v d → g S d lo hi = some e →
    (∀ v H' Z', Adv pu H Z c H' Z' c → StoreOk G.gv H' Z' c S → RK G.gv k H H' Z' c v e → Q v H') → r v lo hi H Q
theorem sll_ok : OpS G (rSlL X.K) gSlL .o := by
  intro pu H Z c S v d e lo hi Q s h hg q
  have h := h.der s
  unfold gSlL at hg
  split at hg
  · rename_i xs e1
    rw [e1] at h
    cases hg
    obtain ⟨a, vs, rfl, ha, rs⟩ := h.lst
    refine ⟨a, vs, rfl, .inl (.inl ha), fun p hp => q _ _ Z (Adv.new hp) (s.new hp) (RK.newO (o := .lst (cutV vs lo hi)) hp s trivial (.lst ?_))⟩
    unfold cutV cutL
    rw [rs.length]
    exact (rs.drop _).take _
  · cases hg
theorem slt_ok : OpS G (fun x lo hi H Q => (rSlA X.K x lo hi H Q ∨ rSlS x lo hi H Q) ∨ rSlL X.K x lo hi H Q) gSlT .z := by
  intro pu H Z c S v d e lo hi Q s h hg q
  have h := h.der s
  unfold gSlT at hg
  split at hg
  · rename_i xs e1
    rw [e1] at h
    cases hg
    obtain ⟨a, vs, rfl, ha, rs, r⟩ := h.tup
    refine .inl (.inl ⟨a, vs, rfl, .inl (.inl ha), fun hw => ?_, fun hw p hp => ?_⟩)
    · rw [cutL_all (by rw [← rs.length]; exact hw)] at q
      exact same_ret (by decide) s r q
    · refine q _ _ Z (Adv.new hp) (s.new hp) (.obj (.inl upd_same) (.inr trivial) ((Bd.tup ?_).mono ((Adv.new (pu := true) hp).grow s)))
      unfold cutV cutL
      rw [rs.length]
      exact (rs.drop _).take _
  · rename_i x e1
    rw [e1] at h
    split at hg
    · rename_i hl
      cases hg
      exact .inl (.inr ⟨x, h.str, hl, same_ret (by decide) s (.str _) q⟩)
    · cases hg
  · rename_i xs e1
    rw [e1] at h
    cases hg
    obtain ⟨a, vs, rfl, ha, rs⟩ := h.lst
    refine .inr ⟨a, vs, rfl, .inl (.inl ha), fun p hp => ?_⟩
    have hb : Bd G.gv H Z c (.lst (cutV vs lo hi)) (.lst (cutL xs lo hi)) := by
      refine .lst ?_
      unfold cutV cutL
      rw [rs.length]
      exact (rs.drop _).take _
    exact q _ _ _ (Adv.newZ hp) (s.newZ hp) (.obj (.inl upd_same) (.inl (.inr rfl)) (hb.mono ((Adv.newZ (pu := true) hp).grow s)))
  · cases hg
inductive PRes where
  | ok (i : Option Int) (S : Store) | ex (j : Nat) (ds : List D) (S : Store) | st
def fPart (f : Option (Dl → Store → Res)) : Dl → Store → PRes := fun δ S => match f with
  | none => .ok none S
  | some f => match f δ S with
    | .ok (.int i) S' => .ok (some i) S'
    | .ok _ _ => .st
    | .ex j ds S' => .ex j ds S'
    | .st => .st
def fSl (f : Dl → Store → Res) (lo hi : Option (Dl → Store → Res)) (g : Store → D → Option Int → Option Int → Option D) : Dl → Store → Res := fun δ S => bindR (f δ S) fun d S1 => match fPart lo δ S1 with
  | .st => .st
  | .ex j ds S' => .ex j ds S'
  | .ok l S2 => match fPart hi δ S2 with
    | .st => .st
    | .ex j ds S' => .ex j ds S'
    | .ok u S3 => opt (g S3 d l u) S3
section
variable {W : WX} {pv : Bool}
def tPO (G : Gc) (W : WX) (pv : Bool) (f : Option (Dl → Store → Res)) (okm : List Md → Prop) : TO := fun σ H Q => ∃ E m δ S Z c, Rst G.gv pv E m δ S Z c σ H ∧ okm m ∧ match fPart f δ S with
  | .st => False
  | .ok i S' => ∀ H' Z' c', Adv pv H Z c H' Z' c' → StoreOk G.gv H' Z' c' S' → Q i H'
  | .ex j ds S' => ∀ H' Z' c' cls dd, Adv pv H Z c H' Z' c' → StoreOk G.gv H' Z' c' S' → ExcAt G H' Z' c' j ds cls dd → W cls dd σ H'
theorem _root_.L2.PO.impD {X : Cx} {e : Option Expr} {t t' : TO} (h : PO X e t) (hw : ∀ σ H Q, t' σ H Q → t σ H Q) : PO X e t' := ⟨fun pins s σ H Q I q => h.run pins s σ H Q I (hw _ _ _ q)⟩
theorem po_noneD : PO X none (tPO G W pv none fun _ => True) := po_none.impD fun σ H Q q => by
  obtain ⟨E, m, δ, S, Z, c, R, ok, q⟩ := q
  exact q H Z c Adv.refl R.st
theorem po_someD {e : Expr} {f : Dl → Store → Res} {k : Kd} {okm : List Md → Prop} (h : PE X e (tE G W pv f k okm)) : PO X (some e) (tPO G W pv (some f) okm) := (po_some h).impD fun σ H Q q => by
  obtain ⟨E, m, δ, S, Z, c, R, ok, q⟩ := q
  refine ⟨E, m, δ, S, Z, c, R, ok, ?_⟩
  unfold fPart at q
  dsimp only at q
  cases hf : f δ S with
  | st => rw [hf] at q; exact q
  | ex j ds S' => rw [hf] at q; exact q
  | ok d S' =>
    rw [hf] at q
    cases d with
    | int i =>
      intro v H' Z' c' a s rk
      exact ⟨i, rk.vw.vr.int, q H' Z' c' a s⟩
    | _ => exact q.elim
theorem pe_slD {e : Expr} {lo hi : Option Expr} {p2 pos : Pos} {r : V → Option Int → Option Int → Hp → VK → Prop} {g : Store → D → Option Int → Option Int → Option D} {f : Dl → Store → Res} {fl fh : Option (Dl → Store → Res)} {k k1 : Kd} {okm okl okh : List Md → Prop} (hr : SlR X r) (h : OpS G r g k) (he : PE X e (tE G W pv f k1 okm))
    (hl : PO X lo (tPO G W pv fl okl)) (hu : PO X hi (tPO G W pv fh okh)) : PE X (.Subscript e (.Slice lo hi none p2) pos) (tE G W pv (fSl f fl fh g) k fun m => okm m ∧ okl m ∧ okh m) := (pe_slice hr he hl hu).impD fun σ H Q q => by
  obtain ⟨E, m, δ, S, Z, c, R, ⟨ok, ok1, ok2⟩, q⟩ := q
  refine ⟨E, m, δ, S, Z, c, R, ok, ?_⟩
  unfold fSl bindR at q
  cases hf : f δ S with
  | st => rw [hf] at q; exact q
  | ex j ds S' => rw [hf] at q; exact q
  | ok d S1 =>
    rw [hf] at q
    dsimp only at q
    intro v H1 Z1 c1 a s rk
    refine ⟨E, m, δ, S1, Z1, c1, R.step a s, ok1, ?_⟩
    cases hp : fPart fl δ S1 with
    | st => rw [hp] at q; exact q
    | ex j ds S' => rw [hp] at q; exact fun H' Z' c' cls dd a' s' x => q H' Z' c' cls dd (a.trans a') s' x
    | ok l S2 =>
      rw [hp] at q
      dsimp only at q
      intro H2 Z2 c2 a2 s2
      refine ⟨E, m, δ, S2, Z2, c2, (R.step a s).step a2 s2, ok2, ?_⟩
      cases hq : fPart fh δ S2 with
      | st => rw [hq] at q; exact q
      | ex j ds S' => rw [hq] at q; exact fun H' Z' c' cls dd a' s' x => q H' Z' c' cls dd ((a.trans a2).trans a') s' x
      | ok u S3 =>
        rw [hq] at q
        dsimp only at q
        intro H3 Z3 c3 a3 s3
        cases hg : g S3 d l u with
        | none => rw [hg] at q; exact q.elim
        | some e =>
          rw [hg] at q
          exact h pv H3 Z3 c3 S3 v d e l u Q s3 ((rk.vw.mono a2 s).mono a3 s2) hg fun v2 H4 Z4 a4 s4 r4 => q v2 H4 Z4 c3 (((a.trans a2).trans a3).trans a4) s4 (r4.back ((a.trans a2).trans a3))
end
end VI
end

section
set_option Elab.async false
set_option linter.all false
set_option autoImplicit false
set_option maxRecDepth 100000
/-! VI, 6: tests, and, or, not, if-expressions, chains, calls -/
namespace VI
open PySem PySem.Spec L2
section
variable {G : Gc} {W : WX} {pv : Bool} {X : Cx}

/-! ### tests -/
theorem pt_valD {e : Expr} {f : Dl → Store → Res} {k : Kd} {okm : List Md → Prop} (h : PE X e (tE G W pv f k okm)) (he : ∀ whole, isTrue e X.env whole = (do let v ← whole; standAt e.pos; holding [v] (truthy v))) : PT X e (tTst G W pv f okm) := (pt_val h he).impD fun σ H Q q => by
  obtain ⟨E, m, δ, S, Z, c, R, ok, q⟩ := q
  refine ⟨E, m, δ, S, Z, c, R, ok, ?_⟩
  cases hf : f δ S with
  | st => rw [hf] at q; exact q
  | ex j ds S' => rw [hf] at q; exact q
  | ok d S' =>
    rw [hf] at q
    obtain ⟨b, rfl, q⟩ := q
    intro v H' Z' c' a s rk
    exact ⟨b, rk.vw.vr.bl, q H' Z' c' a s⟩
theorem pt_cmpD {a b : Expr} {op : CmpOp} {pos : Pos} {r : R2} {g : Store → D → D → Option D} {f f' : Dl → Store → Res} {k k1 k2 : Kd} {okm okm' : List Md → Prop} (ho : OpR X (compareOp op) r) (h : Op2 G r g k) (ha : PE X a (tE G W pv f k1 okm)) (hb : PE X b (tE G W pv f' k2 okm')) (hm : behindInMarks op b = false) :
    PT X (.Compare a [op] [b] pos) (tTst G W pv (fin2 f f' g) fun m => okm m ∧ okm' m) := (pt_cmpR ho ha hb hm).impD fun σ H Q q => by
  refine bin_tE (k := k) h (Q := fun x H1 => ∃ c, x = .bl c ∧ Q c H1) ?_
  obtain ⟨E, m, δ, S, Z, c, R, ok, q⟩ := q
  refine ⟨E, m, δ, S, Z, c, R, ok, ?_⟩
  cases hf : fin2 f f' g δ S with
  | st => rw [hf] at q; exact q
  | ex j ds S' => rw [hf] at q; exact q
  | ok d S' =>
    rw [hf] at q
    obtain ⟨b, rfl, q⟩ := q
    intro v H' Z' c' a s rk
    exact ⟨b, rk.vw.vr.bl, q H' Z' c' a s⟩
def fAnd (f g : Dl → Store → Res) : Dl → Store → Res := fun δ S => bindR (f δ S) fun d S1 => match d with
  | .bl true => g δ S1
  | .bl false => .ok (.bl false) S1
  | _ => .st
def fOr (f g : Dl → Store → Res) : Dl → Store → Res := fun δ S => bindR (f δ S) fun d S1 => match d with
  | .bl false => g δ S1
  | .bl true => .ok (.bl true) S1
  | _ => .st
def gNot (_ : Store) (d : D) : Option D := match d with
  | .bl b => some (.bl (!b))
  | _ => none
theorem and_tT {f g : Dl → Store → Res} {okm okm' : List Md → Prop} {σ : St} {H : Hp} {Q : Bool → Hp → Prop} (q : tTst G W pv (fAnd f g) (fun m => okm m ∧ okm' m) σ H Q) : tAnd (tTst G W pv f okm) (tTst G W pv g okm') σ H Q := by
  obtain ⟨E, m, δ, S, Z, c, R, ⟨ok, ok'⟩, q⟩ := q
  refine ⟨E, m, δ, S, Z, c, R, ok, ?_⟩
  unfold fAnd bindR at q
  cases hf : f δ S with
  | st => rw [hf] at q; exact q
  | ex j ds S' => rw [hf] at q; exact q
  | ok d S1 =>
    rw [hf] at q
    cases d with
    | bl b =>
      refine ⟨b, rfl, fun H1 Z1 c1 a s => ?_⟩
      cases b with
      | false =>
        obtain ⟨b, e, q⟩ := q
        cases e
        rw [if_neg Bool.false_ne_true]
        exact q H1 Z1 c1 a s
      | true =>
        rw [if_pos rfl]
        refine ⟨E, m, δ, S1, Z1, c1, R.step a s, ok', ?_⟩
        dsimp only at q
        cases hg : g δ S1 with
        | st => rw [hg] at q; exact q
        | ex j ds S' => rw [hg] at q; exact fun H' Z' c' cls dd a' s' x => q H' Z' c' cls dd (a.trans a') s' x
        | ok d S2 =>
          rw [hg] at q
          obtain ⟨b, e, q⟩ := q
          exact ⟨b, e, fun H' Z' c' a' s' => q H' Z' c' (a.trans a') s'⟩
    | _ => exact q.elim
theorem or_tT {f g : Dl → Store → Res} {okm okm' : List Md → Prop} {σ : St} {H : Hp} {Q : Bool → Hp → Prop} (q : tTst G W pv (fOr f g) (fun m => okm m ∧ okm' m) σ H Q) : tOr (tTst G W pv f okm) (tTst G W pv g okm') σ H Q := by
  obtain ⟨E, m, δ, S, Z, c, R, ⟨ok, ok'⟩, q⟩ := q
  refine ⟨E, m, δ, S, Z, c, R, ok, ?_⟩
  unfold fOr bindR at q
  cases hf : f δ S with
  | st => rw [hf] at q; exact q
  | ex j ds S' => rw [hf] at q; exact q
  | ok d S1 =>
    rw [hf] at q
    cases d with
    | bl b =>
      refine ⟨b, rfl, fun H1 Z1 c1 a s => ?_⟩
      cases b with
      | true =>
        obtain ⟨b, e, q⟩ := q
        cases e
        rw [if_pos rfl]
        exact q H1 Z1 c1 a s
      | false =>
        rw [if_neg Bool.false_ne_true]
        refine ⟨E, m, δ, S1, Z1, c1, R.step a s, ok', ?_⟩
        dsimp only at q
        cases hg : g δ S1 with
        | st => rw [hg] at q; exact q
        | ex j ds S' => rw [hg] at q; exact fun H' Z' c' cls dd a' s' x => q H' Z' c' cls dd (a.trans a') s' x
        | ok d S2 =>
          rw [hg] at q
          obtain ⟨b, e, q⟩ := q
          exact ⟨b, e, fun H' Z' c' a' s' => q H' Z' c' (a.trans a') s'⟩
    | _ => exact q.elim
theorem not_tT {f : Dl → Store → Res} {okm : List Md → Prop} {σ : St} {H : Hp} {Q : Bool → Hp → Prop} (q : tTst G W pv (fin1 f gNot) okm σ H Q) : L2.tNot (tTst G W pv f okm) σ H Q := by
  obtain ⟨E, m, δ, S, Z, c, R, ok, q⟩ := q
  refine ⟨E, m, δ, S, Z, c, R, ok, ?_⟩
  unfold fin1 bindR at q
  cases hf : f δ S with
  | st => rw [hf] at q; exact q
  | ex j ds S' => rw [hf] at q; exact q
  | ok d S1 =>
    rw [hf] at q
    cases d with
    | bl b =>
      obtain ⟨b', e, q⟩ := q
      cases e
      exact ⟨b, rfl, q⟩
    | _ => exact q.elim

/-! ### as values -/
theorem pe_and1D {a : Expr} {op : BoolOp} {pos : Pos} {f : Dl → Store → Res} {k : Kd} {okm : List Md → Prop} (ha : PE X a (tE G W pv f k okm)) : PE X (.BoolOp op [a] pos) (tE G W pv f k okm) := pe_one ha
theorem pe_andD {a b : Expr} {rest : List Expr} {pos : Pos} {f g : Dl → Store → Res} {k : Kd} {okm okm' : List Md → Prop} (ha : PE X a (tE G W pv f k okm)) (hb : PE X (.BoolOp .And (b :: rest) pos) (tE G W pv g .z okm')) :
    PE X (.BoolOp .And (a :: b :: rest) pos) (tE G W pv (fAnd f g) .z fun m => okm m ∧ okm' m) := (pe_and ha hb).impD fun σ H Q q => by
  obtain ⟨E, m, δ, S, Z, c, R, ⟨ok, ok'⟩, q⟩ := q
  refine ⟨E, m, δ, S, Z, c, R, ok, ?_⟩
  unfold fAnd bindR at q
  cases hf : f δ S with
  | st => rw [hf] at q; exact q
  | ex j ds S' => rw [hf] at q; exact q
  | ok d S1 =>
    rw [hf] at q
    intro v H1 Z1 c1 a s rk
    cases d with
    | bl b =>
      refine ⟨b, rk.vw.vr.bl, ?_⟩
      cases b with
      | false => exact q _ H1 Z1 c1 a s (.bl false)
      | true =>
        rw [if_pos rfl]
        refine ⟨E, m, δ, S1, Z1, c1, R.step a s, ok', ?_⟩
        dsimp only at q
        cases hg : g δ S1 with
        | st => rw [hg] at q; exact q
        | ex j ds S' => rw [hg] at q; exact fun H' Z' c' cls dd a' s' x => q H' Z' c' cls dd (a.trans a') s' x
        | ok d S2 => rw [hg] at q; exact fun v H' Z' c' a' s' rk => q v H' Z' c' (a.trans a') s' rk
    | _ => exact q.elim
theorem pe_orD {a b : Expr} {rest : List Expr} {pos : Pos} {f g : Dl → Store → Res} {k : Kd} {okm okm' : List Md → Prop} (ha : PE X a (tE G W pv f k okm)) (hb : PE X (.BoolOp .Or (b :: rest) pos) (tE G W pv g .z okm')) :
    PE X (.BoolOp .Or (a :: b :: rest) pos) (tE G W pv (fOr f g) .z fun m => okm m ∧ okm' m) := (pe_or ha hb).impD fun σ H Q q => by
  obtain ⟨E, m, δ, S, Z, c, R, ⟨ok, ok'⟩, q⟩ := q
  refine ⟨E, m, δ, S, Z, c, R, ok, ?_⟩
  unfold fOr bindR at q
  cases hf : f δ S with
  | st => rw [hf] at q; exact q
  | ex j ds S' => rw [hf] at q; exact q
  | ok d S1 =>
    rw [hf] at q
    intro v H1 Z1 c1 a s rk
    cases d with
    | bl b =>
      refine ⟨b, rk.vw.vr.bl, ?_⟩
      cases b with
      | true => exact q _ H1 Z1 c1 a s (.bl true)
      | false =>
        rw [if_neg Bool.false_ne_true]
        refine ⟨E, m, δ, S1, Z1, c1, R.step a s, ok', ?_⟩
        dsimp only at q
        cases hg : g δ S1 with
        | st => rw [hg] at q; exact q
        | ex j ds S' => rw [hg] at q; exact fun H' Z' c' cls dd a' s' x => q H' Z' c' cls dd (a.trans a') s' x
        | ok d S2 => rw [hg] at q; exact fun v H' Z' c' a' s' rk => q v H' Z' c' (a.trans a') s' rk
    | _ => exact q.elim
theorem pe_notD {a : Expr} {pos : Pos} {f : Dl → Store → Res} {k : Kd} {okm : List Md → Prop} (ha : PE X a (tE G W pv f k okm)) : PE X (.UnaryOp .Not a pos) (tE G W pv (fin1 f gNot) .z okm) := (pe_not ha).impD fun σ H Q q => by
  obtain ⟨E, m, δ, S, Z, c, R, ok, q⟩ := q
  refine ⟨E, m, δ, S, Z, c, R, ok, ?_⟩
  unfold fin1 bindR at q
  cases hf : f δ S with
  | st => rw [hf] at q; exact q
  | ex j ds S' => rw [hf] at q; exact q
  | ok d S1 =>
    rw [hf] at q
    intro v H1 Z1 c1 a s rk
    cases d with
    | bl b => exact ⟨b, rk.vw.vr.bl, q _ H1 Z1 c1 a s (.bl _)⟩
    | _ => exact q.elim
/-- kept from now on -/
theorem toZ {e : Expr} {f : Dl → Store → Res} {k : Kd} {okm : List Md → Prop} (hk : k ≠ .b) (h : PE X e (tE G W pv f k okm)) : PE X e (tE G W pv f .z okm) := h.impD fun σ H Q q => by
  obtain ⟨E, m, δ, S, Z, c, R, ok, q⟩ := q
  refine ⟨E, m, δ, S, Z, c, R, ok, ?_⟩
  cases hf : f δ S with
  | st => rw [hf] at q; exact q
  | ex j ds S' => rw [hf] at q; exact q
  | ok d S1 =>
    rw [hf] at q
    intro v H1 Z1 c1 a s rk
    obtain ⟨Z2, a2, s2, r2, _⟩ := rk.frz hk a s
    exact q v H1 Z2 c1 a2 s2 r2
/-- only read -/
theorem toB {e : Expr} {f : Dl → Store → Res} {k : Kd} {okm : List Md → Prop} (h : PE X e (tE G W pv f k okm)) : PE X e (tE G W pv f .b okm) := h.impD fun σ H Q q => by
  obtain ⟨E, m, δ, S, Z, c, R, ok, q⟩ := q
  refine ⟨E, m, δ, S, Z, c, R, ok, ?_⟩
  cases hf : f δ S with
  | st => rw [hf] at q; exact q
  | ex j ds S' => rw [hf] at q; exact q
  | ok d S1 =>
    rw [hf] at q
    exact fun v H1 Z1 c1 a s rk => q v H1 Z1 c1 a s rk.vw
theorem okImp {e : Expr} {f : Dl → Store → Res} {k : Kd} {okm okm' : List Md → Prop} (hm : ∀ m, okm' m → okm m) (h : PE X e (tE G W pv f k okm)) : PE X e (tE G W pv f k okm') := h.impD fun σ H Q q => by
  obtain ⟨E, m, δ, S, Z, c, R, ok, q⟩ := q
  exact ⟨E, m, δ, S, Z, c, R, hm m ok, q⟩
def fIf (t f g : Dl → Store → Res) : Dl → Store → Res := fun δ S => bindR (t δ S) fun d S1 => match d with
  | .bl true => f δ S1
  | .bl false => g δ S1
  | _ => .st
theorem pe_ifD {t a b : Expr} {pos : Pos} {ft f g : Dl → Store → Res} {k : Kd} {okt okm okm' : List Md → Prop} (ht : PT X t (tTst G W pv ft okt)) (ha : PE X a (tE G W pv f k okm)) (hb : PE X b (tE G W pv g k okm')) :
    PE X (.IfExp t a b pos) (tE G W pv (fIf ft f g) k fun m => okt m ∧ okm m ∧ okm' m) := (pe_ifExp ht ha hb).impD fun σ H Q q => by
  obtain ⟨E, m, δ, S, Z, c, R, ⟨ok0, ok1, ok2⟩, q⟩ := q
  refine ⟨E, m, δ, S, Z, c, R, ok0, ?_⟩
  unfold fIf bindR at q
  cases hf : ft δ S with
  | st => rw [hf] at q; exact q
  | ex j ds S' => rw [hf] at q; exact q
  | ok d S1 =>
    rw [hf] at q
    cases d with
    | bl b =>
      refine ⟨b, rfl, fun H1 Z1 c1 a s => ?_⟩
      cases b with
      | true =>
        rw [if_pos rfl]
        refine ⟨E, m, δ, S1, Z1, c1, R.step a s, ok1, ?_⟩
        dsimp only at q
        cases hg : f δ S1 with
        | st => rw [hg] at q; exact q
        | ex j ds S' => rw [hg] at q; exact fun H' Z' c' cls dd a' s' x => q H' Z' c' cls dd (a.trans a') s' x
        | ok d S2 => rw [hg] at q; exact fun v H' Z' c' a' s' rk => q v H' Z' c' (a.trans a') s' (rk.back a)
      | false =>
        rw [if_neg Bool.false_ne_true]
        refine ⟨E, m, δ, S1, Z1, c1, R.step a s, ok2, ?_⟩
        dsimp only at q
        cases hg : g δ S1 with
        | st => rw [hg] at q; exact q
        | ex j ds S' => rw [hg] at q; exact fun H' Z' c' cls dd a' s' x => q H' Z' c' cls dd (a.trans a') s' x
        | ok d S2 => rw [hg] at q; exact fun v H' Z' c' a' s' rk => q v H' Z' c' (a.trans a') s' (rk.back a)
    | _ => exact q.elim
/-- a op b op' c -/
def fChain (f f' f2 : Dl → Store → Res) (g g' : Store → D → D → Option D) : Dl → Store → Res := fun δ S => bindR (f δ S) fun d S1 => bindR (f' δ S1) fun d' S2 => match g S2 d d' with
  | some (.bl true) => bindR (f2 δ S2) fun d2 S3 => opt (g' S3 d' d2) S3
  | some (.bl false) => .ok (.bl false) S2
  | _ => .st
theorem chain_tE {r r' : R2} {g g' : Store → D → D → Option D} {f f' f2 : Dl → Store → Res} {k1 k2 k3 : Kd} {okm okm' okm2 : List Md → Prop} (h : Op2 G r g .z) (h' : Op2 G r' g' .z) {σ : St} {H : Hp} {Q : VK}
    (q : tE G W pv (fChain f f' f2 g g') .z (fun m => okm m ∧ okm' m ∧ okm2 m) σ H Q) : tChain r r' (tE G W pv f k1 okm) (tE G W pv f' k2 okm') (tE G W pv f2 k3 okm2) σ H Q := by
  obtain ⟨E, m, δ, S, Z, c, R, ⟨ok, ok', ok2⟩, q⟩ := q
  refine ⟨E, m, δ, S, Z, c, R, ok, ?_⟩
  unfold fChain bindR at q
  cases hf : f δ S with
  | st => rw [hf] at q; exact q
  | ex j ds S' => rw [hf] at q; exact q
  | ok d S1 =>
    rw [hf] at q
    dsimp only at q
    intro v H1 Z1 c1 a s rk
    refine ⟨E, m, δ, S1, Z1, c1, R.step a s, ok', ?_⟩
    cases hf' : f' δ S1 with
    | st => rw [hf'] at q; exact q
    | ex j ds S' => rw [hf'] at q; exact fun H' Z' c' cls dd a' s' x => q H' Z' c' cls dd (a.trans a') s' x
    | ok d' S2 =>
      rw [hf'] at q
      dsimp only at q
      intro w H2 Z2 c2 a' s' rk'
      cases hg : g S2 d d' with
      | none => rw [hg] at q; exact q.elim
      | some e =>
        rw [hg] at q
        refine h pv H2 Z2 c2 S2 v w d d' e _ s' (rk.vw.mono a' s) rk'.vw hg fun v2 H3 Z3 a3 s3 r3 => ?_
        cases e with
        | bl b =>
          refine ⟨b, (Vr.rep r3).bl, ?_⟩
          cases b with
          | false => rw [if_neg Bool.false_ne_true]; exact q _ H3 Z3 c2 ((a.trans a').trans a3) s3 (.bl false)
          | true =>
            rw [if_pos rfl]
            refine ⟨E, m, δ, S2, Z3, c2, ((R.step a s).step a' s').step a3 s3, ok2, ?_⟩
            dsimp only at q
            cases hf2 : f2 δ S2 with
            | st => rw [hf2] at q; exact q
            | ex j ds S' => rw [hf2] at q; exact fun H' Z' c' cls dd a4 s4 x => q H' Z' c' cls dd (((a.trans a').trans a3).trans a4) s4 x
            | ok d2 S3 =>
              rw [hf2] at q
              dsimp only at q
              intro w' H4 Z4 c4 a4 s4 rk4
              cases hg' : g' S3 d' d2 with
              | none => rw [hg'] at q; exact q.elim
              | some e =>
                rw [hg'] at q
                exact h' pv H4 Z4 c4 S3 w w' d' d2 e _ s4 (((rk'.vw.mono a3 s')).mono a4 s3) rk4.vw hg' fun v5 H5 Z5 a5 s5 r5 => q v5 H5 Z5 c4 ((((a.trans a').trans a3).trans a4).trans a5) s5 r5
        | _ => exact q.elim
theorem tst_of {f : Dl → Store → Res} {k : Kd} {okm : List Md → Prop} {σ : St} {H : Hp} {Q : Bool → Hp → Prop} (q : tTst G W pv f okm σ H Q) : tE G W pv f k okm σ H fun x H1 => ∃ c, x = .bl c ∧ Q c H1 := by
  obtain ⟨E, m, δ, S, Z, c, R, ok, q⟩ := q
  refine ⟨E, m, δ, S, Z, c, R, ok, ?_⟩
  cases hf : f δ S with
  | st => rw [hf] at q; exact q
  | ex j ds S' => rw [hf] at q; exact q
  | ok d S' =>
    rw [hf] at q
    obtain ⟨b, rfl, q⟩ := q
    intro v H' Z' c' a s rk
    exact ⟨b, rk.vw.vr.bl, q H' Z' c' a s⟩
theorem pe_chainD {a b c : Expr} {op op' : CmpOp} {pos : Pos} {r r' : R2} {g g' : Store → D → D → Option D} {f f' f2 : Dl → Store → Res} {k1 k2 k3 : Kd} {okm okm' okm2 : List Md → Prop} (ho : OpR X (compareOp op) r) (ho' : OpR X (compareOp op') r') (h : Op2 G r g .z) (h' : Op2 G r' g' .z)
    (ha : PE X a (tE G W pv f k1 okm)) (hb : PE X b (tE G W pv f' k2 okm')) (hc : PE X c (tE G W pv f2 k3 okm2)) (hm : lastMarks [op, op'] [b, c] = false) :
    PE X (.Compare a [op, op'] [b, c] pos) (tE G W pv (fChain f f' f2 g g') .z fun m => okm m ∧ okm' m ∧ okm2 m) := (pe_chain ho ho' ha hb hc hm).impD fun σ H Q q => chain_tE h h' q
theorem pt_chainD {a b c : Expr} {op op' : CmpOp} {pos : Pos} {r r' : R2} {g g' : Store → D → D → Option D} {f f' f2 : Dl → Store → Res} {k1 k2 k3 : Kd} {okm okm' okm2 : List Md → Prop} (ho : OpR X (compareOp op) r) (ho' : OpR X (compareOp op') r') (h : Op2 G r g .z) (h' : Op2 G r' g' .z)
    (ha : PE X a (tE G W pv f k1 okm)) (hb : PE X b (tE G W pv f' k2 okm')) (hc : PE X c (tE G W pv f2 k3 okm2)) (hm : lastMarks [op, op'] [b, c] = false) :
    PT X (.Compare a [op, op'] [b, c] pos) (tTst G W pv (fChain f f' f2 g g') fun m => okm m ∧ okm' m ∧ okm2 m) := (pt_chain ho ho' ha hb hc hm).impD fun σ H Q q => chain_tE h h' (tst_of q)

/-! ### calls of defs -/
/-- with the dicts lk that may be locked -/
abbrev Gc.L (G : Gc) (lk : Addr → Prop) : Gc := ⟨{ G.gv with lk := lk }⟩
/-- what a def promises on data -/
def spD (G : Gc) (n : Nat) (k : Kd) (pu : Bool) (g : List D → Store → Res) : Sp := fun vs H Q E => vs.length = n ∧ ∃ lk Z c S ds, (pu = true ∨ ∀ a, ¬ lk a) ∧ StoreOk (G.L lk).gv H Z c S ∧ Reps (G.L lk).gv H Z c vs ds ∧ match g ds S with
  | .st => False
  | .ok d S' => ∀ v H' Z' c', Adv pu H Z c H' Z' c' → StoreOk (G.L lk).gv H' Z' c' S' → RK (G.L lk).gv k H H' Z' c' v d → Q v H'
  | .ex j ds' S' => ∀ H' Z' c' cls dd, Adv pu H Z c H' Z' c' → StoreOk (G.L lk).gv H' Z' c' S' → ExcAt (G.L lk) H' Z' c' j ds' cls dd → E cls dd H'
def fCall (f : Dl → Store → Ress) (g : List D → Store → Res) : Dl → Store → Res := fun δ S => match f δ S with
  | .st => .st
  | .ex j ds S' => .ex j ds S'
  | .ok ds S1 => g ds S1
theorem Adv.pure_to {pu : Bool} {H H' : Hp} {Z Z' : Addr → Prop} {c c' : List Addr} (a : Adv true H Z c H' Z' c') : Adv pu H Z c H' Z' c' := ⟨fun x o h _ nt => a.keep x o h (.inl rfl) nt, a.zz, a.zn, a.cn, a.tr⟩
theorem Adv.weak {pu pv : Bool} (hp : pv = true → pu = true) {H H' : Hp} {Z Z' : Addr → Prop} {c c' : List Addr} (a : Adv pu H Z c H' Z' c') : Adv pv H Z c H' Z' c' :=
  ⟨fun x o h e nt => a.keep x o h (e.imp hp id) nt, a.zz, a.zn, a.cn, a.tr⟩
theorem call_tE {lk : Addr → Prop} {n : Nat} {k : Kd} {pu : Bool} {g : List D → Store → Res} {f : Dl → Store → Ress} {okm : List Md → Prop} (hp : pv = true → pu = true) (hk : pu = true ∨ ∀ a, ¬ lk a) (hl : ∀ δ S ds S', f δ S = .ok ds S' → ds.length = n) {σ : St} {H : Hp} {Q : VK}
    (q : tE (G.L lk) W pv (fCall f g) k okm σ H Q) : tAs (G.L lk) W pv f true okm σ H fun vs H1 => spD G n k pu g vs H1 Q (WE W σ) := by
  obtain ⟨E, m, δ, S, Z, c, R, ok, q⟩ := q
  refine ⟨E, m, δ, S, Z, c, R, ok, ?_⟩
  unfold fCall at q
  cases hf : f δ S with
  | st => rw [hf] at q; exact q
  | ex j ds S' => rw [hf] at q; exact q
  | ok ds S1 =>
    rw [hf] at q
    dsimp only at q
    intro vs H1 Z1 c1 a s _ rs
    have rs := rs rfl
    refine ⟨by rw [rs.length]; exact hl δ S ds S1 hf, lk, Z1, c1, S1, ds, hk, s, rs, ?_⟩
    cases hg : g ds S1 with
    | st => rw [hg] at q; exact q
    | ex j ds S' => rw [hg] at q; exact fun H' Z' c' cls dd a' s' x => q H' Z' c' cls dd (a.trans (a'.weak hp)) s' x
    | ok d S2 => rw [hg] at q; exact fun v H' Z' c' a' s' rk => q v H' Z' c' (a.trans (a'.weak hp)) s' (rk.back a)
end
end VI
end

section
set_option Elab.async false
set_option linter.all false
set_option autoImplicit false
set_option maxRecDepth 100000
/-! VI, 7: what is walked; statements -/
namespace VI
open PySem PySem.Spec L2

/-! ### modes -/
def frz1L (m : List Md) (i : Nat) : List Md := if m[i]? = some .o then m.set i .z else m
def frzL (is : List Nat) (m : List Md) : List Md := is.foldl frz1L m
/-- from these modes to those -/
def cv1 (a b : Md) : Bool := decide (a = b) || decide (b = .x) || (decide (a = .o) && decide (b = .z))
def cv (m m' : List Md) : Bool := decide (m.length = m'.length) && (List.range m.length).all fun i => match m[i]?, m'[i]? with
  | some a, some b => cv1 a b
  | _, _ => false
def meet1 : Md → Md → Md
  | .x, _ => .x
  | _, .x => .x
  | .o, .o => .o
  | _, _ => .z
def meet (m m' : List Md) : List Md := List.zipWith meet1 m m'
section
variable {gv : Gv} {pv : Bool} {E : Ent pv} {H H' : Hp} {Z Z' : Addr → Prop} {c c' : List Addr} {S S' : Store} {m m' : List Md} {δ : Dl} {σ : St}
theorem Rst.frzL (is : List Nat) : ∀ {m : List Md} {Z : Addr → Prop}, Rst gv pv E m δ S Z c σ H → ∃ Z', Rst gv pv E (VI.frzL is m) δ S Z' c σ H ∧ Grow H Z c H Z' c := by
  induction is with
  | nil => intro m Z r; exact ⟨Z, r, Grow.refl⟩
  | cons i is ih =>
    intro m Z r
    show ∃ Z', Rst gv pv E (VI.frzL is (frz1L m i)) δ S Z' c σ H ∧ _
    unfold frz1L
    by_cases h : m[i]? = some .o
    · rw [if_pos h]
      obtain ⟨Z1, r1, g1, _⟩ := r.frz1 h
      obtain ⟨Z2, r2, g2⟩ := ih r1
      exact ⟨Z2, r2, g1.trans g2⟩
    · rw [if_neg h]
      exact ih r
/-- modes are weakened -/
theorem Rst.conv (r : Rst gv pv E m δ S Z c σ H) (h : cv m m' = true) : ∃ Z', Rst gv pv E m' δ S Z' c σ H ∧ Grow H Z c H Z' c := by
  unfold cv at h
  rw [Bool.and_eq_true, decide_eq_true_eq, List.all_eq_true] at h
  obtain ⟨hl, h⟩ := h
  -- one after another, from the left
  suffices ∀ n, n ≤ m.length → ∃ Z', Rst gv pv E (m'.take n ++ m.drop n) δ S Z' c σ H ∧ Grow H Z c H Z' c by
    obtain ⟨Z', r', g⟩ := this m.length (Nat.le_refl _)
    rw [hl, List.take_length, ← hl, List.drop_length, List.append_nil] at r'
    exact ⟨Z', r', g⟩
  intro n
  induction n with
  | zero => intro _; exact ⟨Z, by simpa using r, Grow.refl⟩
  | succ n ih =>
    intro hn
    obtain ⟨Z1, r1, g1⟩ := ih (by omega)
    have hn1 : n < m.length := by omega
    have hn2 : n < m'.length := by omega
    have hc := h n (List.mem_range.mpr hn1)
    rw [List.getElem?_eq_getElem hn1, List.getElem?_eq_getElem hn2] at hc
    dsimp only at hc
    have e0 : m'.take n ++ m.drop n = m'.take n ++ (m[n] :: m.drop (n + 1)) := by rw [List.drop_eq_getElem_cons hn1]
    have e1 : m'.take (n + 1) ++ m.drop (n + 1) = (m'.take n ++ m.drop n).set n m'[n] := by
      rw [e0, List.set_append_right _ _ (by rw [List.length_take]; omega), List.length_take, Nat.min_eq_left (by omega), Nat.sub_self, List.set_cons_zero, List.take_succ_eq_append_getElem hn2, List.append_assoc]
      rfl
    have at_ : (m'.take n ++ m.drop n)[n]? = some m[n] := by
      rw [e0, List.getElem?_append_right (by rw [List.length_take]; omega), List.length_take, Nat.min_eq_left (by omega), Nat.sub_self]
      rfl
    rw [e1]
    unfold cv1 at hc
    simp only [Bool.or_eq_true, Bool.and_eq_true, decide_eq_true_eq] at hc
    rcases hc with (hc | hc) | ⟨hc1, hc2⟩
    · refine ⟨Z1, ?_, g1⟩
      rw [← hc]
      have : (m'.take n ++ m.drop n).set n m[n] = m'.take n ++ m.drop n := by
        apply List.ext_getElem?
        intro j
        by_cases hj : n = j
        · subst hj
          rw [List.getElem?_set_self (by simp; omega), at_]
        · rw [List.getElem?_set_ne hj]
      rw [this]
      exact r1
    · rw [hc]
      exact ⟨Z1, r1.drop n, g1⟩
    · rw [hc1] at at_
      obtain ⟨Z2, r2, g2, _⟩ := r1.frz1 at_
      rw [hc2]
      exact ⟨Z2, r2, g1.trans g2⟩
end

/-! ### what is walked -/
def WalkOk (gv : Gv) (pv : Bool) (H : Hp) (Z : Addr → Prop) (c : List Addr) (J : It) (items : List D) : Prop := ∀ H2 Z2 c2 S2, Go pv H Z c H2 Z2 c2 → StoreOk gv H2 Z2 c2 S2 →
  (∀ i, i < items.length → J.go i H2) ∧ (∀ i, items.length ≤ i → J.stop i H2) ∧ ∀ (i : Nat) d x H3, items[i]? = some d → J.yld i H2 x H3 → ∃ Z3, Adv pv H2 Z2 c2 H3 Z3 c2 ∧ StoreOk gv H3 Z3 c2 S2 ∧ Rep gv H3 Z3 c2 x d
section
variable {G : Gc} {W : WX} {pv : Bool} {X : Cx} {tg : Expr}
def tIt (G : Gc) (W : WX) (pv : Bool) (f : Dl → Store → Ress) (okm : List Md → Prop) : TI := fun σ H R => ∃ E m δ S Z c, Rst G.gv pv E m δ S Z c σ H ∧ okm m ∧ match f δ S with
  | .st => False
  | .ok items S' => ∀ J H' Z' c', Adv pv H Z c H' Z' c' → StoreOk G.gv H' Z' c' S' → WalkOk G.gv pv H' Z' c' J items → R J H'
  | .ex j ds S' => ∀ H' Z' c' cls dd, Adv pv H Z c H' Z' c' → StoreOk G.gv H' Z' c' S' → ExcAt G H' Z' c' j ds cls dd → W cls dd σ H'
theorem _root_.L2.PI.impD {X : Cx} {tg e : Expr} {t t' : TI} (h : PI X tg e t) (hw : ∀ σ H R, t' σ H R → t σ H R) : PI X tg e t' := ⟨fun pins s σ H R I q => h.run pins s σ H R I (hw _ _ _ q)⟩
def signs (x : Str) : List D := x.cps.toList.map fun k => .str ⟨#[k]⟩
def seqIt : D → Option (List D)
  | .lst xs => some xs
  | .tup xs => some xs
  | .str x => some (signs x)
  | _ => none
def fIt (f : Dl → Store → Res) : Dl → Store → Ress := fun δ S => match f δ S with
  | .st => .st
  | .ex j ds S' => .ex j ds S'
  | .ok d S' => match seqIt d with
    | some xs => .ok xs S'
    | none => .st
/-- a list, a tuple, a text -/
def iSeq (K : PySem.W.Frag) (tl : TE) : TI := fun σ H R => tl σ H fun x H1 => (∃ a, x = .ref a ∧ (∃ xs, SqL K H1 a xs) ∧ R (Itl K a) H1) ∨ (∃ a, x = .ref a ∧ (∃ xs, SqT K H1 a xs) ∧ R (Itt K a) H1) ∨ ∃ z, x = .str z ∧ R (Its z) H1
theorem pi_seq {l : Expr} {tl : TE} (hl : PE X l tl) : PI X tg l (iSeq X.K tl) := by
  refine ⟨fun pins s σ H R I h => ?_⟩
  refine thn (hl.run pins s σ H _ I h) fun v s1 ⟨x, H1, I1, r1, q1⟩ => ?_
  rcases q1 with ⟨a, e, ⟨xs, hq⟩, q⟩ | ⟨a, e, ⟨xs, hq⟩, q⟩ | ⟨z, e, q⟩
  · subst e
    cases r1
    obtain ⟨its, rv, p, hz⟩ := I1.list hq
    refine wpAny_pyIter_list p.isList ?_
    refine ⟨s1.heap.objs.size, [s1.heap.objs.size], _, _, H1, rfl, I1.kept (t' := s1.toks) fun b o e => Heap.get?_push_of_some _ e, turn_list a _, ⟨_, Heap.get?_push_size _ rfl, rfl, rfl⟩, fun b hb => ?_, q⟩
    have e : b = s1.heap.objs.size := by simpa using hb
    subst e
    exact I1.fpOk (Nat.le_refl _) (I1.hok.fresh (Nat.le_refl _))
  · subst e
    cases r1
    obtain ⟨its, rv, p, hz⟩ := I1.tuple hq
    refine wpAny_pyIter_tuple (show s1.heap.IsTuple a its.toArray from p) ?_
    refine ⟨s1.heap.objs.size, [s1.heap.objs.size], _, _, H1, rfl, I1.kept (t' := s1.toks) fun b o e => Heap.get?_push_of_some _ e, turn_tuple a _, ⟨_, Heap.get?_push_size _ rfl, rfl, rfl⟩, fun b hb => ?_, q⟩
    have e : b = s1.heap.objs.size := by simpa using hb
    subst e
    exact I1.fpOk (Nat.le_refl _) (I1.hok.fresh (Nat.le_refl _))
  · subst e
    obtain ⟨t, rfl⟩ := r1
    cases ha : z.cps.all (· < 128)
    · exact wpAny_pyIter_wide ha (pi_one (tk := s1.toks) I1 _ (turn_str _ z t "str_iterator" (.inr rfl)) ⟨_, Heap.get?_push_size _ rfl, rfl, rfl⟩ q)
    · exact wpAny_pyIter_ascii ha (pi_one (tk := s1.toks) I1 _ (turn_str _ z t "str_ascii_iterator" (.inl rfl)) ⟨_, Heap.get?_push_size _ rfl, rfl, rfl⟩ q)
theorem walk_lst {K : PySem.W.Frag} {gv : Gv} {H : Hp} {Z : Addr → Prop} {c : List Addr} {a : Addr} {vs : List V} {ds : List D} (h : H a = some (.lst vs)) (hz : Z a) (r : Reps gv H Z c vs ds) : WalkOk gv pv H Z c (Itl K a) ds := by
  intro H2 Z2 c2 S2 g s
  have h2 : SqL K H2 a vs := .inl (.inl (g.1.zk a _ (.inl h) (.inl hz) trivial).lst)
  have r2 := r.mono g.1
  refine ⟨fun i hi => ?_, fun i hi => ⟨vs, h2, by rw [r.length]; exact hi⟩, fun i d x H3 e y => ?_⟩
  · have hi' : i < vs.length := by rw [r.length]; exact hi
    exact ⟨vs, vs[i], h2, List.getElem?_eq_getElem hi'⟩
  · obtain ⟨e3, y⟩ := y
    subst e3
    obtain ⟨v, hv, rv⟩ := r2.get e
    have := (y vs h2).symm.trans hv
    cases this
    exact ⟨Z2, Adv.refl, s, rv⟩
theorem walk_tup {K : PySem.W.Frag} {gv : Gv} {H : Hp} {Z : Addr → Prop} {c : List Addr} {a : Addr} {vs : List V} {ds : List D} (h : H a = some (.tup vs)) (r : Reps gv H Z c vs ds) : WalkOk gv pv H Z c (Itt K a) ds := by
  intro H2 Z2 c2 S2 g s
  have h2 : SqT K H2 a vs := .inl (.inl (g.1.zk a _ (.inl h) (.inr trivial) trivial).tup)
  have r2 := r.mono g.1
  refine ⟨fun i hi => ?_, fun i hi => ⟨vs, h2, by rw [r.length]; exact hi⟩, fun i d x H3 e y => ?_⟩
  · have hi' : i < vs.length := by rw [r.length]; exact hi
    exact ⟨vs, vs[i], h2, List.getElem?_eq_getElem hi'⟩
  · obtain ⟨e3, y⟩ := y
    subst e3
    obtain ⟨v, hv, rv⟩ := r2.get e
    have := (y vs h2).symm.trans hv
    cases this
    exact ⟨Z2, Adv.refl, s, rv⟩
theorem walk_str {gv : Gv} {H : Hp} {Z : Addr → Prop} {c : List Addr} (x : Str) : WalkOk gv pv H Z c (Its x) (signs x) := by
  intro H2 Z2 c2 S2 g s
  have hl : (signs x).length = x.cps.size := by simp [signs]
  refine ⟨fun i hi => by rw [hl] at hi; exact hi, fun i hi => by rw [hl] at hi; exact hi, fun i d v H3 e y => ?_⟩
  obtain ⟨e3, k, hk, rfl⟩ := y
  subst e3
  have : (signs x)[i]? = some (.str ⟨#[k]⟩) := by
    unfold signs
    rw [List.getElem?_map, Array.getElem?_toList, hk]
    rfl
  rw [e] at this
  cases this
  exact ⟨Z2, Adv.refl, s, .str _⟩
theorem pi_seqD {l : Expr} {f : Dl → Store → Res} {okm : List Md → Prop} (h : PE X l (tE G W pv f .z okm)) : PI X tg l (tIt G W pv (fIt f) okm) := (pi_seq h).impD fun σ H R q => by
  obtain ⟨E, m, δ, S, Z, c, R', ok, q⟩ := q
  refine ⟨E, m, δ, S, Z, c, R', ok, ?_⟩
  unfold fIt at q
  cases hf : f δ S with
  | st => rw [hf] at q; exact q
  | ex j ds S' => rw [hf] at q; exact q
  | ok d S' =>
    rw [hf] at q
    dsimp only at q
    intro v H' Z' c' a s rk
    cases hs : seqIt d with
    | none => rw [hs] at q; exact q.elim
    | some xs =>
      rw [hs] at q
      cases d with
      | lst ys =>
        cases hs
        cases (show Rep G.gv H' Z' c' v (.lst xs) from rk) with
        | obj h z b => cases b with
          | lst r => exact .inl ⟨_, rfl, ⟨_, .inl (.inl h.lst)⟩, q _ H' Z' c' a s (walk_lst h.lst (z.elim id fun z => z.elim) r)⟩
      | tup ys =>
        cases hs
        cases (show Rep G.gv H' Z' c' v (.tup xs) from rk) with
        | obj h z b => cases b with
          | tup r => exact .inr (.inl ⟨_, rfl, ⟨_, .inl (.inl h.tup)⟩, q _ H' Z' c' a s (walk_tup h.tup r)⟩)
      | str y =>
        cases hs
        exact .inr (.inr ⟨y, (Vr.rep rk).str, q _ H' Z' c' a s (walk_str y)⟩)
      | _ => cases hs
/-! range -/
def rngD (lo : Int) (n : Nat) : List D := (List.range n).map fun i => .int (lo + (i : Nat))
theorem walk_rng {gv : Gv} {H : Hp} {Z : Addr → Prop} {c : List Addr} (lo : Int) (n : Nat) : WalkOk gv pv H Z c (Itr lo n) (rngD lo n) := by
  intro H2 Z2 c2 S2 g s
  have hl : (rngD lo n).length = n := by simp [rngD]
  refine ⟨fun i hi => by rw [hl] at hi; exact hi, fun i hi => by rw [hl] at hi; exact hi, fun i d v H3 e y => ?_⟩
  obtain ⟨e3, rfl⟩ := y
  subst e3
  have hi : i < n := by rw [← hl]; exact (List.getElem?_eq_some_iff.mp e).1
  have : (rngD lo n)[i]? = some (.int (lo + (i : Nat))) := by
    unfold rngD
    rw [List.getElem?_map, List.getElem?_range hi]
    rfl
  rw [e] at this
  cases this
  exact ⟨Z2, Adv.refl, s, .int _⟩
def fRng (f : Dl → Store → Ress) : Dl → Store → Ress := fun δ S => match f δ S with
  | .st => .st
  | .ex j ds S' => .ex j ds S'
  | .ok [.int j] S' => if -(2 ^ 62) ≤ j ∧ j < 2 ^ 62 then .ok (rngD 0 j.toNat) S' else .st
  | .ok [.int i, .int j] S' => if -(2 ^ 62) ≤ i ∧ i < 2 ^ 62 ∧ -(2 ^ 62) ≤ j ∧ j < 2 ^ 62 then .ok (rngD i (j - i).toNat) S' else .st
  | .ok _ _ => .st
theorem it_tAs {r : List V → Hp → (It → Hp → Prop) → Prop} {f g : Dl → Store → Ress} {st : Bool} {okm : List Md → Prop}
    (hx : ∀ δ S, match f δ S with
      | .st => g δ S = .st
      | .ex j ds S' => g δ S = .ex j ds S'
      | .ok ds S' => g δ S = .st ∨ ∃ items, g δ S = .ok items S' ∧ ∀ H Z c vs R, StoreOk G.gv H Z c S' → Vws G.gv H Z c vs ds → (st = true → Reps G.gv H Z c vs ds) → (∀ J, WalkOk G.gv pv H Z c J items → R J H) → r vs H R)
    {σ : St} {H : Hp} {R : It → Hp → Prop} (q : tIt G W pv g okm σ H R) : tAs G W pv f st okm σ H fun vs H1 => r vs H1 R := by
  obtain ⟨E, m, δ, S, Z, c, R', ok, q⟩ := q
  refine ⟨E, m, δ, S, Z, c, R', ok, ?_⟩
  have hx := hx δ S
  cases hf : f δ S with
  | st => rw [hf] at hx; rw [hx] at q; exact q
  | ex j ds S' => rw [hf] at hx; rw [hx] at q; exact q
  | ok ds S' =>
    rw [hf] at hx
    intro vs H' Z' c' a s ws rs
    rcases hx with hx | ⟨items, hx, hr⟩
    · rw [hx] at q; exact q.elim
    · rw [hx] at q
      exact hr H' Z' c' vs R s ws rs fun J hJ => q J H' Z' c' a s hJ
theorem pi_rng1D {a : Expr} {p pos : Pos} {f : Dl → Store → Ress} {st : Bool} {okm : List Md → Prop} (hg : Gl X "range") (hm : X.mg "range" = none) (ha : PA X [a] (tAs G W pv f st okm)) (hl : ∀ δ S ds S', f δ S = .ok ds S' → ds.length = 1) (hs : starEach [a] X.env = [(false, eval a X.env)]) :
    PI X tg (.Call (.Name "range" p) [a] [] pos) (tIt G W pv (fRng f) okm) := (pi_range1 hg hm ha hs).impD fun σ H R q => by
  refine it_tAs (r := fun vs H1 R => ∃ j : Int, vs = [.int j] ∧ -(2 ^ 62) ≤ j ∧ j < 2 ^ 62 ∧ R (Itr 0 j.toNat) H1) (fun δ S => ?_) q
  cases hf : f δ S with
  | st => unfold fRng; rw [hf]
  | ex j ds S' => unfold fRng; rw [hf]
  | ok ds S' =>
    have := hl δ S ds S' hf
    match ds, this with
    | [d], _ =>
      cases d with
      | int j =>
        by_cases hb : -(2 ^ 62) ≤ j ∧ j < 2 ^ 62
        · refine .inr ⟨rngD 0 j.toNat, by unfold fRng; rw [hf]; dsimp only; rw [if_pos hb], fun H Z c vs R s ws _ q => ?_⟩
          obtain ⟨v, rfl, h1⟩ := vws1 ws
          exact ⟨j, by rw [h1.vr.int], hb.1, hb.2, q _ (walk_rng 0 _)⟩
        · exact .inl (by unfold fRng; rw [hf]; dsimp only; rw [if_neg hb])
      | _ => exact .inl (by unfold fRng; rw [hf])
theorem pi_rng2D {a b : Expr} {p pos : Pos} {f : Dl → Store → Ress} {st : Bool} {okm : List Md → Prop} (hg : Gl X "range") (hm : X.mg "range" = none) (ha : PA X [a, b] (tAs G W pv f st okm)) (hl : ∀ δ S ds S', f δ S = .ok ds S' → ds.length = 2)
    (hs : starEach [a, b] X.env = [(false, eval a X.env), (false, eval b X.env)]) (hs2 : starEach [b] X.env = [(false, eval b X.env)]) :
    PI X tg (.Call (.Name "range" p) [a, b] [] pos) (tIt G W pv (fRng f) okm) := (pi_range2 hg hm ha hs hs2).impD fun σ H R q => by
  refine it_tAs (r := fun vs H1 R => ∃ i j : Int, vs = [.int i, .int j] ∧ (-(2 ^ 62) ≤ i ∧ i < 2 ^ 62 ∧ -(2 ^ 62) ≤ j ∧ j < 2 ^ 62) ∧ R (Itr i (j - i).toNat) H1) (fun δ S => ?_) q
  cases hf : f δ S with
  | st => unfold fRng; rw [hf]
  | ex j ds S' => unfold fRng; rw [hf]
  | ok ds S' =>
    have := hl δ S ds S' hf
    match ds, this with
    | [d, e], _ =>
      cases d with
      | int i =>
        cases e with
        | int j =>
          by_cases hb : -(2 ^ 62) ≤ i ∧ i < 2 ^ 62 ∧ -(2 ^ 62) ≤ j ∧ j < 2 ^ 62
          · refine .inr ⟨rngD i (j - i).toNat, by unfold fRng; rw [hf]; dsimp only; rw [if_pos hb], fun H Z c vs R s ws _ q => ?_⟩
            obtain ⟨v, w, rfl, h1, h2⟩ := vws2 ws
            exact ⟨i, j, by rw [h1.vr.int, h2.vr.int], hb, q _ (walk_rng i _)⟩
          · exact .inl (by unfold fRng; rw [hf]; dsimp only; rw [if_neg hb])
        | _ => exact .inl (by unfold fRng; rw [hf])
      | _ => exact .inl (by unfold fRng; rw [hf])
end
end VI
end

section
set_option Elab.async false
set_option linter.all false
set_option autoImplicit false
set_option maxRecDepth 100000
/-! VI, 8: targets, comprehensions, loops, statements -/
namespace VI
open PySem PySem.Spec L2

/-! ### targets -/
inductive Tgt where
  | one (i : Nat) | tup (is : List Nat)
  deriving DecidableEq
def Tgt.slots : Tgt → List Nat
  | .one i => [i]
  | .tup is => is
def bindL : List Nat → List D → Dl → Option Dl
  | [], [], δ => some δ
  | i :: is, d :: ds, δ => bindL is ds (δ.set i (some d))
  | _, _, _ => none
def bindT : Tgt → D → Dl → Option Dl
  | .one i, d, δ => some (δ.set i (some d))
  | .tup is, .tup ds, δ => bindL is ds δ
  | .tup is, .lst ds, δ => bindL is ds δ
  | .tup _, _, _ => none
def mdL (is : List Nat) (m : List Md) : List Md := is.foldl (fun m i => m.set i .z) m
def mdT (t : Tgt) (m : List Md) : List Md := mdL t.slots m
theorem wipe_get (σ : St) : ∀ (vs : List Nat) (j : Nat), (wipe σ vs)[j]? = if j ∈ vs then σ[j]?.map fun _ => none else σ[j]?
  | [], j => by simp [wipe]
  | v :: vs, j => by
    unfold wipe
    by_cases e : v = j
    · subst e
      rw [List.getElem?_set, if_pos rfl, if_pos List.mem_cons_self, wipe_length]
      by_cases h : v < σ.length
      · rw [if_pos h, List.getElem?_eq_getElem h]; rfl
      · rw [if_neg h, List.getElem?_eq_none (by omega)] <;> rfl
    · rw [List.getElem?_set_ne e, wipe_get σ vs j]
      have : j ∈ v :: vs ↔ j ∈ vs := by simp [Ne.symm e]
      simp only [this]
theorem wipe_set {σ : St} {i : Nat} {x : Option V} {vs : List Nat} (h : i ∈ vs) : wipe (σ.set i x) vs = wipe σ vs := by
  apply List.ext_getElem?
  intro j
  rw [wipe_get, wipe_get]
  by_cases hj : j ∈ vs
  · rw [if_pos hj, if_pos hj, List.getElem?_set]
    split
    · rename_i e
      subst e
      split
      · rename_i hl; rw [List.getElem?_eq_getElem hl]; rfl
      · rename_i hl; rw [List.getElem?_eq_none (by omega)]; first | done | rfl
    · rfl
  · rw [if_neg hj, if_neg hj, List.getElem?_set_ne]
    rintro rfl
    exact hj h
structure NameOk (X : Cx) (i : Nat) (x : Str) : Prop where
  n : X.N[i]? = some x
  l : Loc X.env.scope x
  f : X.fn x = true ∨ X.env.scope.names.lookup x = some .local
/-- the target's names -/
inductive TgOk (X : Cx) : Expr → Tgt → Prop
  | one {x : Str} {i : Nat} {p : Pos} : NameOk X i x → TgOk X (.Name x p) (.one i)
  | tup {es : List Expr} {is : List Nat} {k : Nat} {p : Pos} : Paired (fun e i => ∃ x p, e = Expr.Name x p ∧ NameOk X i x) es is → TgOk X (.Tuple es k p) (.tup is)
section
variable {G : Gc} {W : WX} {pv : Bool} {X : Cx}
def tTg (G : Gc) (pv : Bool) (t : Tgt) : TG := fun v σ H Q => ∃ E m δ S Z c d δ', Rst G.gv pv E m δ S Z c σ H ∧ Rep G.gv H Z c v d ∧ bindT t d δ = some δ' ∧
  ∀ σ', Rst G.gv pv E (mdT t m) δ' S Z c σ' H → (∀ vs, (∀ i ∈ t.slots, i ∈ vs) → wipe σ' vs = wipe σ vs) → Q σ' H
def tTgs (G : Gc) (pv : Bool) (is : List Nat) : TGs := fun vs σ H Q => ∃ E m δ S Z c ds δ', Rst G.gv pv E m δ S Z c σ H ∧ Reps G.gv H Z c vs ds ∧ bindL is ds δ = some δ' ∧
  ∀ σ', Rst G.gv pv E (mdL is m) δ' S Z c σ' H → (∀ vs, (∀ i ∈ is, i ∈ vs) → wipe σ' vs = wipe σ vs) → Q σ' H
theorem _root_.L2.PG.impD {X : Cx} {e : Expr} {t t' : TG} (h : PG X e t) (hw : ∀ v σ H Q, t' v σ H Q → t v σ H Q) : PG X e t' := ⟨fun pins s σ H v u Q I r q => h.run pins s σ H v u Q I r (hw _ _ _ _ q)⟩
theorem _root_.L2.PGs.impD {X : Cx} {es : List Expr} {t t' : TGs} (h : PGs X es t) (hw : ∀ v σ H Q, t' v σ H Q → t v σ H Q) : PGs X es t' := ⟨fun pins s σ H v u Q I r q => h.run pins s σ H v u Q I r (hw _ _ _ _ q)⟩
theorem _root_.L2.PG.orD {X : Cx} {e : Expr} {t t' : TG} (h : PG X e t) (h' : PG X e t') : PG X e (fun v σ H Q => t v σ H Q ∨ t' v σ H Q) := ⟨fun pins s σ H v u Q I r q => q.elim (h.run pins s σ H v u Q I r) (h'.run pins s σ H v u Q I r)⟩
theorem NameOk.lt {i : Nat} {x : Str} (h : NameOk X i x) {σ : St} (hl : σ.length = X.N.length) : i < σ.length := by rw [hl]; exact (List.getElem?_eq_some_iff.mp h.n).1
/-- with the slots' number known -/
theorem pg_nameD {i : Nat} {x : Str} {p : Pos} (hN : X.N.Nodup) (h : NameOk X i x) : PG X (.Name x p) (tTg G pv (.one i)) := by
  refine ⟨fun pins s σ H v u Q I r q => ?_⟩
  obtain ⟨E, m, δ, S, Z, c, d, δ', R, rp, hb, q⟩ := q
  cases hb
  refine (pg_name hN h.n h.l h.f).run pins s σ H v u Q I r ?_
  exact q _ (R.setZ (h.lt I.len) rp) fun vs hv => wipe_set (hv i List.mem_cons_self)
theorem pgs_namesD (hN : X.N.Nodup) : ∀ {es : List Expr} {is : List Nat}, Paired (fun e i => ∃ x p, e = Expr.Name x p ∧ NameOk X i x) es is → PGs X es (tTgs G pv is)
  | _, _, .nil => pgs_nil.impD fun vs σ H Q q => by
    obtain ⟨E, m, δ, S, Z, c, ds, δ', R, rs, hb, q⟩ := q
    cases ds with
    | nil => cases rs; cases hb; exact ⟨rfl, q σ R fun _ _ => rfl⟩
    | cons => cases hb
  | _, _, .cons (l₂ := is) ⟨x, p, e, ok⟩ t => by
    subst e
    refine ⟨fun pins s σ H vs us Q I r q => ?_⟩
    obtain ⟨E, m, δ, S, Z, c, ds, δ', R, rs, hb, q⟩ := q
    refine (pgs_cons (pg_nameD (G := G) (pv := pv) hN ok) (pgs_namesD hN t) rfl).run pins s σ H vs us Q I r ?_
    cases ds with
    | nil => cases hb
    | cons d ds =>
      cases rs with
      | cons r1 rt =>
        refine ⟨_, _, rfl, E, m, δ, S, Z, c, d, _, R, r1, rfl, fun σ' R' hw => ?_⟩
        refine ⟨E, _, _, S, Z, c, ds, δ', R', rt, hb, fun σ2 R2 hw2 => q σ2 R2 fun vs hv => ?_⟩
        rw [hw2 vs fun i hi => hv i (List.mem_cons_of_mem _ hi), hw vs fun i hi => hv i (by cases hi with | head => exact List.mem_cons_self | tail _ h => cases h)]
theorem assignEach_names {es : List Expr} {is : List Nat} (h : Paired (fun e i => ∃ x p, e = Expr.Name x p ∧ NameOk X i x) es is) : (assignEach es X.env).length = es.length ∧ (assignEach es X.env).findIdx? (·.1) = none := by
  induction h with
  | nil => exact ⟨rfl, rfl⟩
  | cons r t ih =>
    obtain ⟨x, p, e, ok⟩ := r
    subst e
    have e1 : ∀ es : List Expr, assignEach (Expr.Name x p :: es) X.env = (false, assign (.Name x p) X.env) :: assignEach es X.env := fun _ => rfl
    rw [e1]
    refine ⟨by rw [List.length_cons, List.length_cons, ih.1], ?_⟩
    rw [List.findIdx?_cons, if_neg (by simp), ih.2]
    rfl
theorem bindL_len : ∀ {is : List Nat} {ds : List D} {δ δ' : Dl}, bindL is ds δ = some δ' → is.length = ds.length
  | [], [], _, _, _ => rfl
  | [], _ :: _, _, _, h => by cases h
  | _ :: _, [], _, _, h => by cases h
  | i :: is, d :: ds, δ, δ', h => congrArg (· + 1) (bindL_len (δ := δ.set i (some d)) h)
theorem paired_len {α β : Type} {F : α → β → Prop} {l : List α} {l' : List β} (h : Paired F l l') : l.length = l'.length := Paired.length h
theorem pg_tgD {e : Expr} {t : Tgt} (hc : X.calm = true) (hN : X.N.Nodup) (h : TgOk X e t) : PG X e (tTg G pv t) := by
  cases h with
  | one h => exact pg_nameD hN h
  | tup h =>
    rename_i es is k p
    have h1 := assignEach_names h
    refine ((pg_tup (n := is.length) hc (pgs_namesD (G := G) (pv := pv) hN h) (by rw [h1.1]; exact paired_len h) h1.2).orD (pg_unl (n := is.length) hc (pgs_namesD (G := G) (pv := pv) hN h) (by rw [h1.1]; exact paired_len h) h1.2)).impD fun v σ H Q q => ?_
    obtain ⟨E, m, δ, S, Z, c, d, δ', R, rp, hb, q⟩ := q
    cases d with
    | tup ds =>
      cases rp with
      | obj hh z b => cases b with
        | tup rs =>
          have hl := bindL_len hb
          exact .inl ⟨_, _, rfl, .inl (.inl hh.tup), by rw [rs.length, hl], E, m, δ, S, Z, c, ds, δ', R, rs, hb, q⟩
    | lst ds =>
      cases rp with
      | obj hh z b => cases b with
        | lst rs =>
          have hl := bindL_len hb
          exact .inr ⟨_, _, rfl, .inl (.inl hh.lst), by rw [rs.length, hl], E, m, δ, S, Z, c, ds, δ', R, rs, hb, q⟩
    | _ => cases hb

/-! ### [elt for target in iter if cond] -/
def xL (is : List Nat) (m : List Md) : List Md := is.foldl (fun m i => m.set i .x) m
theorem xL_get : ∀ (is : List Nat) (m : List Md) (j : Nat) (k : Md), (xL is m)[j]? = some k → k = .x ∨ (m[j]? = some k ∧ j ∉ is)
  | [], m, j, k, h => .inr ⟨h, by simp⟩
  | i :: is, m, j, k, h => by
    rcases xL_get is (m.set i .x) j k h with h | ⟨h, hn⟩
    · exact .inl h
    · rcases getElem?_set' h with ⟨_, e, _⟩ | ⟨ne, h⟩
      · exact .inl e.symm
      · exact .inr ⟨h, by simp only [List.mem_cons, not_or]; exact ⟨fun e => ne e.symm, hn⟩⟩
theorem xL_len : ∀ (is : List Nat) (m : List Md), (xL is m).length = m.length
  | [], _ => rfl
  | i :: is, m => by
    show (xL is (m.set i .x)).length = _
    rw [xL_len, List.length_set]
theorem Rst.wipe {gv : Gv} {E : Ent pv} {m : List Md} {δ : Dl} {S : Store} {Z : Addr → Prop} {c : List Addr} {σ : St} {H : Hp} (r : Rst gv pv E m δ S Z c σ H) (vs : List Nat) : Rst gv pv E (xL vs m) δ S Z c (L2.wipe σ vs) H := by
  have keep : ∀ j, j ∉ vs → (L2.wipe σ vs)[j]? = σ[j]? := fun j hj => by rw [wipe_get, if_neg hj]
  refine ⟨r.st, r.adv, r.an, by rw [xL_len, wipe_length]; exact r.lm, by rw [wipe_length]; exact r.ld, fun i d h1 h2 => ?_, fun i h => ?_, fun i j a ne h1 h2 h3 => ?_⟩
  · rcases xL_get vs m i _ h1 with h | ⟨h, hn⟩
    · cases h
    · rw [keep i hn]; exact r.zs i d h h2
  · rcases xL_get vs m i _ h with h | ⟨h, hn⟩
    · cases h
    · rw [keep i hn]; exact r.os i h
  · rcases xL_get vs m i _ h1 with h | ⟨h, hn⟩
    · cases h
    · rcases xL_get vs m j _ h2 with h' | ⟨h', hn'⟩
      · cases h'
      · rw [keep i hn] at h3
        rw [keep j hn']
        exact r.ds i j a ne h h' h3
def lcD (t : Tgt) (cond elt : Dl → Store → Res) (δ : Dl) : List D → Store → Ress
  | [], S => .ok [] S
  | x :: xs, S => match bindT t x δ with
    | none => .st
    | some δ1 => match cond δ1 S with
      | .ok (.bl true) S1 => (match elt δ1 S1 with
        | .ok d S2 => (match lcD t cond elt δ xs S2 with
          | .ok ds S3 => .ok (d :: ds) S3
          | _ => .st)
        | _ => .st)
      | .ok (.bl false) S1 => lcD t cond elt δ xs S1
      | _ => .st
def fLc (t : Tgt) (cond elt : Dl → Store → Res) (it : Dl → Store → Ress) : Dl → Store → Res := fun δ S => match it δ S with
  | .st => .st
  | .ex j ds S' => .ex j ds S'
  | .ok items S1 => if items.length ≤ sizeLine then (match lcD t cond elt δ items S1 with
    | .ok ds S2 => .ok (.lst ds) S2
    | _ => .st) else .st
theorem Grow.upd {gv : Gv} {H : Hp} {Z : Addr → Prop} {c : List Addr} {p : Addr} {o u : HO} (hp : H p = some u) (hm : isMut u) (hz : ¬ Z p) : Grow H Z c (upd H p o) Z c := by
  refine ⟨fun a w h z _ => ?_, fun a w x h _ => ?_, fun a w h hx => ?_, fun _ h => h, fun _ _ h => h⟩
  · have ne : a ≠ p := by
      rintro rfl
      rcases z with z | z
      · exact hz z
      · rcases h with h | ⟨hd, ob, h⟩
        · rw [hp] at h; cases h; exact mut_tup hm z
        · rw [hp] at h; cases h; exact hm
    rcases h with h | ⟨hd, ob, h⟩
    · exact .inl (by rw [upd_ne ne]; exact h)
    · exact .inr ⟨hd, ob, by rw [upd_ne ne]; exact h⟩
  · have ne : a ≠ p := by
      rintro rfl
      rw [hp] at h; cases h; exact hm
    rw [upd_ne ne]; exact h
  · have ne : a ≠ p := by
      rintro rfl
      rw [hp] at h; cases h; exact mut_xo hm hx
    rw [upd_ne ne]; exact h
theorem StoreOk.upd {gv : Gv} {H : Hp} {Z : Addr → Prop} {c : List Addr} {S : Store} {p : Addr} {o u : HO} (s : StoreOk gv H Z c S) (hp : H p = some u) (hm : isMut u) (hz : ¬ Z p) (hc : p ∉ c) (no : NT o := by intro ps e; cases e) : StoreOk gv (upd H p o) Z c S := by
  have g : Grow H Z c (L2.upd H p o) Z c := Grow.upd (gv := gv) hp hm hz
  refine ⟨s.len, s.nd, fun n x e => ?_, fun x z => ?_, tabs_mut s.tb hp hm no⟩
  · obtain ⟨sc, w, h1, h2, h3, h4, h5⟩ := s.ok n x e
    have ne : x ≠ p := fun z => hc (z ▸ List.mem_of_getElem? e)
    exact ⟨sc, w, h1, h2.keep fun y e => by rw [upd_ne ne]; exact e, h3, h4.mono g, h5⟩
  · obtain ⟨w, h⟩ := s.zt x z
    have ne : x ≠ p := fun e => hz (e ▸ z)
    exact ⟨w, by rw [upd_ne ne]; exact h⟩
theorem Adv.upd {H H' : Hp} {Z Z' : Addr → Prop} {c c' : List Addr} {p : Addr} {o : HO} (a : Adv pv H Z c H' Z' c') (hp : H p = none) : Adv pv H Z c (upd H' p o) Z' c' := by
  refine ⟨fun x w h hx nt => ?_, a.zz, a.zn, a.cn, fun x w h => ?_⟩
  · rw [upd_ne (ne_of_none h hp)]; exact a.keep x w h hx nt
  · obtain ⟨w', h'⟩ := a.tr x w h
    exact ⟨w', by rw [upd_ne (ne_of_none h hp)]; exact h'⟩
/-- what is left, what is made (at L) -/
def LcInv (gv : Gv) (pv : Bool) (t : Tgt) (fc fe : Dl → Store → Res) (δ : Dl) (items : List D) (ds : List D) (S3 : Store) (H1 : Hp) (Z1 : Addr → Prop) (c1 : List Addr) (L : Addr) (i : Nat) (H2 : Hp) : Prop :=
  i ≤ items.length ∧ ∃ Z2 c2 S2 vs2 ds2, Adv pv H1 Z1 c1 H2 Z2 c2 ∧ StoreOk gv H2 Z2 c2 S2 ∧ H2 L = some (.lst vs2) ∧ Reps gv H2 Z2 c2 vs2 ds2 ∧ ¬ Z2 L ∧ L ∉ c2 ∧ ds2.length ≤ i ∧
    (match lcD t fc fe δ (items.drop i) S2 with
      | .ok es S4 => ds = ds2 ++ es ∧ S3 = S4
      | _ => False)
/-- what is asked of the parts within the block: no exception is let out there -/
theorem lc_tE {wi : TI} {t : Tgt} {fc fe : Dl → Store → Res} {fi : Dl → Store → Ress} {k : Kd} {okm okc oke : List Md → Prop} (hk : k ≠ .b) {vs : List Nat} (hv : ∀ i ∈ t.slots, i ∈ vs)
    (hc : ∀ m, okm m → okc (mdT t (xL vs m)) ∧ oke (mdT t (xL vs m))) {W0 : WX} {σ : St} {H : Hp} {Q : VK} (q : tE G W pv (fLc t fc fe fi) .o okm σ H Q) :
    tLc (tIt G W pv fi okm) (tTg G pv t) (tTst G W0 pv fc okc) (tE G W0 pv fe k oke) vs σ H Q := by
  obtain ⟨E, m, δ, S, Z, c, R, ok, q⟩ := q
  refine ⟨E, m, δ, S, Z, c, R, ok, ?_⟩
  unfold fLc at q
  cases hf : fi δ S with
  | st => rw [hf] at q; exact q
  | ex j ds S' => rw [hf] at q; exact q
  | ok items S1 =>
    rw [hf] at q
    dsimp only at q
    intro J H1 Z1 c1 a1 s1 wk
    by_cases hsz : items.length ≤ sizeLine
    case neg => rw [if_neg hsz] at q; exact q.elim
    rw [if_pos hsz] at q
    intro L hL
    have R1 := R.step a1 s1
    cases hl : lcD t fc fe δ items S1 with
    | st => rw [hl] at q; exact q.elim
    | ex j ds S' => rw [hl] at q; exact q.elim
    | ok ds S3 =>
      rw [hl] at q
      dsimp only at q
      have nZ : ¬ Z1 L := fun z => by obtain ⟨o, h⟩ := s1.zt L z; rw [hL] at h; cases h
      have nC : L ∉ c1 := fun z => by
        obtain ⟨n, e⟩ := List.getElem?_of_mem z
        exact s1.ne e hL rfl
      refine ⟨fun i mm H2 => mm = items.length - i ∧ LcInv G.gv pv t fc fe δ items ds S3 H1 Z1 c1 L i H2, ⟨items.length, by simp, Nat.zero_le _, Z1, c1, S1, [], [], Adv.new hL, s1.new hL, upd_same, .nil, nZ, nC, Nat.le_refl _, ?_⟩, fun i mm H2 hI => ?_⟩
      · rw [List.drop_zero, hl]; exact ⟨rfl, rfl⟩
      · obtain ⟨rfl, hi, Z2, c2, S2, vs2, ds2, a2, s2, hH, rs, nz, nc, hlen, hm⟩ := hI
        have wk2 := wk H2 Z2 c2 S2 (a2.go s1) s2
        by_cases hlt : i < items.length
        · right
          refine ⟨wk2.1 i hlt, fun H3 => LcInv G.gv pv t fc fe δ items ds S3 H1 Z1 c1 L (i + 1) H3, fun H3 h3 => ⟨items.length - (i + 1), by omega, rfl, h3⟩, fun x H3 hy => ?_⟩
          have hd : items.drop i = items[i] :: items.drop (i + 1) := List.drop_eq_getElem_cons hlt
          rw [hd] at hm
          unfold lcD at hm
          obtain ⟨Z3, a3, s3, r3⟩ := wk2.2.2 i items[i] x H3 (List.getElem?_eq_getElem hlt) hy
          -- the target
          cases hb : bindT t items[i] δ with
          | none => rw [hb] at hm; exact hm.elim
          | some δ1 =>
            rw [hb] at hm
            dsimp only at hm
            have a13 := a2.trans a3
            have R3 : Rst G.gv pv E (xL vs m) δ S2 Z3 c2 (L2.wipe σ vs) H3 := (R1.step a13 s3).wipe vs
            refine ⟨E, xL vs m, δ, S2, Z3, c2, items[i], δ1, R3, r3, hb, fun σ2 R4 hw => ?_⟩
            have hw2 : L2.wipe σ2 vs = L2.wipe σ vs := by
              rw [hw vs hv]
              apply List.ext_getElem?
              intro j
              rw [wipe_get, wipe_get]
              by_cases hj : j ∈ vs
              · simp only [wipe_get, if_pos hj]
                cases σ[j]? <;> rfl
              · simp only [wipe_get, if_neg hj]
            refine ⟨hw2, E, _, δ1, S2, Z3, c2, R4, (hc m ok).1, ?_⟩
            cases hcd : fc δ1 S2 with
            | st => rw [hcd] at hm; exact hm.elim
            | ex j es S' => rw [hcd] at hm; exact hm.elim
            | ok b S4 =>
              rw [hcd] at hm
              cases b with
              | bl b =>
                refine ⟨b, rfl, fun H4 Z4 c4 a4 s4 => ?_⟩
                have a14 := a13.trans a4
                cases b with
                | false =>
                  refine L2.iteF ?_
                  dsimp only at hm
                  refine ⟨hlt, Z4, c4, S4, vs2, ds2, a14, s4, ?_, (rs.mono (a3.grow s2)).mono (a4.grow s3), ?_, ?_, Nat.le_succ_of_le hlen, ?_⟩
                  · exact a4.keep _ _ (a3.keep _ _ hH (.inr nc) (fun ps e => by cases e)) (.inr nc) (fun ps e => by cases e)
                  · intro z
                    rcases a4.zn L z with z | z
                    · rcases a3.zn L z with z | z
                      · exact nz z
                      · rw [hH] at z; cases z
                    · rw [a3.keep _ _ hH (.inr nc) (fun ps e => by cases e)] at z; cases z
                  · obtain ⟨n, e, hn⟩ := a4.cn
                    rw [e, List.mem_append]
                    rintro (z | z)
                    · exact nc z
                    · have := hn L z
                      rw [a3.keep _ _ hH (.inr nc) (fun ps e => by cases e)] at this; cases this
                  · exact hm
                | true =>
                  refine L2.iteT ?_
                  dsimp only at hm
                  refine ⟨E, _, δ1, S4, Z4, c4, R4.step a4 s4, (hc m ok).2, ?_⟩
                  cases hel : fe δ1 S4 with
                  | st => rw [hel] at hm; exact hm.elim
                  | ex j es S' => rw [hel] at hm; exact hm.elim
                  | ok d S5 =>
                    rw [hel] at hm
                    dsimp only at hm
                    intro y H5 Z5 c5 a5 s5 rk
                    obtain ⟨Z6, a6, s6, r6, g6⟩ := rk.frz hk a5 s5
                    have kL3 := a3.keep _ _ hH (.inr nc) (fun ps e => by cases e)
                    have kL4 := a4.keep _ _ kL3 (.inr nc) (fun ps e => by cases e)
                    have nc4 : L ∉ c4 := by
                      obtain ⟨n, e, hn⟩ := a4.cn
                      rw [e, List.mem_append]
                      rintro (z | z)
                      · exact nc z
                      · have := hn L z
                        rw [kL3] at this; cases this
                    have kL5 := a6.keep _ _ kL4 (.inr nc4) (fun ps e => by cases e)
                    have nc5 : L ∉ c5 := by
                      obtain ⟨n, e, hn⟩ := a6.cn
                      rw [e, List.mem_append]
                      rintro (z | z)
                      · exact nc4 z
                      · have := hn L z
                        rw [kL4] at this; cases this
                    have nz6 : ¬ Z6 L := by
                      intro z
                      rcases a6.zn L z with z | z
                      · rcases a4.zn L z with z | z
                        · rcases a3.zn L z with z | z
                          · exact nz z
                          · rw [hH] at z; cases z
                        · rw [kL3] at z; cases z
                      · rw [kL4] at z; cases z
                    have rs6 := ((rs.mono (a3.grow s2)).mono (a4.grow s3)).mono (a6.grow s4)
                    have hvl : vs2.length < sizeLine := by rw [rs.length]; omega
                    have gu : Grow H5 Z6 c5 (L2.upd H5 L (.lst (vs2 ++ [y]))) Z6 c5 := Grow.upd (gv := G.gv) kL5 trivial nz6
                    refine ⟨vs2, kL5, hvl, hlt, Z6, c5, S5, vs2 ++ [y], ds2 ++ [d], (a14.trans a6).upd hL, s6.upd kL5 trivial nz6 nc5, upd_same, (rs6.append (.cons r6 .nil)).mono gu, nz6, nc5, by rw [List.length_append, List.length_singleton]; omega, ?_⟩
                    cases hrest : lcD t fc fe δ (items.drop (i + 1)) S5 with
                    | st => rw [hrest] at hm; exact hm.elim
                    | ex j es S' => rw [hrest] at hm; exact hm.elim
                    | ok es S6 =>
                      rw [hrest] at hm
                      dsimp only at hm ⊢
                      exact ⟨by rw [hm.1, List.append_assoc]; rfl, hm.2⟩
              | _ => exact hm.elim
        · left
          have hi' : i = items.length := by omega
          subst hi'
          refine ⟨wk2.2.1 _ (Nat.le_refl _), ?_⟩
          rw [List.drop_length] at hm
          unfold lcD at hm
          dsimp only at hm
          obtain ⟨e1, e2⟩ := hm
          rw [List.append_nil] at e1
          subst e1 e2
          exact q (.ref L) H2 Z2 c2 (a1.trans a2) s2 ⟨L, _, rfl, hH, trivial, .lst rs, nz, nc, a1.untr hL⟩
end
end VI
end

section
set_option Elab.async false
set_option linter.all false
set_option autoImplicit false
set_option maxRecDepth 100000
/-! VI, 9: statements -/
namespace VI
open PySem PySem.Spec L2

inductive SRes where
  | nx (δ : Dl) (S : Store) | ret (d : D) (S : Store) | ex (j : Nat) (ds : List D) (S : Store) | st
/-- what is wanted behind a statement: rk: of what kind the def's answer is; m': the modes behind it -/
def postS (G : Gc) (W : WX) (pv : Bool) (rk : Kd) (m' : List Md) (E : Ent pv) (D : Ends) : SRes → Prop
  | .nx δ' S' => ∀ σ' H' Z' c', Rst G.gv pv E m' δ' S' Z' c' σ' H' → D.nx σ' H'
  | .ret d S' => ∀ v H' Z' c', Adv pv E.H E.Z E.c H' Z' c' → StoreOk G.gv H' Z' c' S' → RK G.gv rk E.H H' Z' c' v d → D.rt v H'
  | .ex j ds S' => ∀ σ' H' Z' c' cls dd, Adv pv E.H E.Z E.c H' Z' c' → StoreOk G.gv H' Z' c' S' → ExcAt G H' Z' c' j ds cls dd → W cls dd σ' H'
  | .st => False
def tS (G : Gc) (W : WX) (pv : Bool) (rk : Kd) (f : Dl → Store → SRes) (m m' : List Md) : TS := fun D σ H => ∃ E δ S Z c, Rst G.gv pv E m δ S Z c σ H ∧ postS G W pv rk m' E D (f δ S)
def bindS (r : Res) (g : D → Store → SRes) : SRes := match r with
  | .ok d S => g d S
  | .ex j ds S => .ex j ds S
  | .st => .st
section
variable {G : Gc} {W : WX} {pv : Bool} {X : Cx} {rk : Kd} {m m' m2 : List Md}
/-- the modes behind may be weaker -/
theorem post_conv {E : Ent pv} {D : Ends} {r : SRes} (h : cv m' m2 = true) (q : postS G W pv rk m2 E D r) : postS G W pv rk m' E D r := by
  cases r with
  | nx δ S =>
    intro σ' H' Z' c' R
    obtain ⟨Z2, R2, _⟩ := R.conv h
    exact q σ' H' Z2 c' R2
  | _ => exact q
theorem ts_conv {st : Stmt} {f : Dl → Store → SRes} (h : cv m' m2 = true) (p : PS X st (tS G W pv rk f m m')) : PS X st (tS G W pv rk f m m2) := p.impD fun D σ H q => by
  obtain ⟨E, δ, S, Z, c, R, q⟩ := q
  exact ⟨E, δ, S, Z, c, R, post_conv h q⟩
theorem tss_conv {st : List Stmt} {f : Dl → Store → SRes} (h : cv m' m2 = true) (p : PSs X st (tS G W pv rk f m m')) : PSs X st (tS G W pv rk f m m2) := p.impD fun D σ H q => by
  obtain ⟨E, δ, S, Z, c, R, q⟩ := q
  exact ⟨E, δ, S, Z, c, R, post_conv h q⟩
/-- ahead of it: frozen -/
theorem ts_frz {st : Stmt} {f : Dl → Store → SRes} (is : List Nat) (p : PS X st (tS G W pv rk f (frzL is m) m')) : PS X st (tS G W pv rk f m m') := p.impD fun D σ H q => by
  obtain ⟨E, δ, S, Z, c, R, q⟩ := q
  obtain ⟨Z', R', _⟩ := R.frzL is
  exact ⟨E, δ, S, Z', c, R', q⟩
def sNil : Dl → Store → SRes := fun δ S => .nx δ S
def sSeq (f g : Dl → Store → SRes) : Dl → Store → SRes := fun δ S => match f δ S with
  | .nx δ' S' => g δ' S'
  | r => r
theorem pss_nilD : PSs X [] (tS G W pv rk sNil m m) := pss_nil.impD fun D σ H q => by
  obtain ⟨E, δ, S, Z, c, R, q⟩ := q
  exact q σ H Z c R
theorem pss_consD {s : Stmt} {ss : List Stmt} {f g : Dl → Store → SRes} (h1 : PS X s (tS G W pv rk f m m')) (h2 : PSs X ss (tS G W pv rk g m' m2)) : PSs X (s :: ss) (tS G W pv rk (sSeq f g) m m2) := (pss_cons h1 h2).impD fun D σ H q => by
  obtain ⟨E, δ, S, Z, c, R, q⟩ := q
  refine ⟨E, δ, S, Z, c, R, ?_⟩
  unfold sSeq at q
  cases hf : f δ S with
  | st => rw [hf] at q; exact q
  | ex j ds S' => rw [hf] at q; exact q
  | ret d S' => rw [hf] at q; exact q
  | nx δ' S' =>
    rw [hf] at q
    exact fun σ' H' Z' c' R' => ⟨E, δ', S', Z', c', R', q⟩
/-- a statement by an expression -/
theorem st_of {f : Dl → Store → Res} {g : D → Dl → Store → SRes} {k : Kd} {okm : List Md → Prop} (hok : okm m) {D : Ends} {σ : L2.St} {H : Hp} {R : V → Hp → Prop} (q : tS G W pv rk (fun δ S => bindS (f δ S) fun d S' => g d δ S') m m' D σ H)
    (hR : ∀ E δ S1 Z1 c1 v d H1, Rst G.gv pv E m δ S1 Z1 c1 σ H1 → RK G.gv k H H1 Z1 c1 v d → RK G.gv k E.H H1 Z1 c1 v d → (∀ a, H a = none → ∀ j : Nat, m[j]? = some .o → σ[j]? ≠ some (some (.ref a))) → postS G W pv rk m' E D (g d δ S1) → R v H1) : tE G W pv f k okm σ H R := by
  obtain ⟨E, δ, S, Z, c, R', q⟩ := q
  refine ⟨E, m, δ, S, Z, c, R', hok, ?_⟩
  unfold bindS at q
  dsimp only at q
  cases hf : f δ S with
  | st => rw [hf] at q; exact q
  | ex j ds S' => rw [hf] at q; exact fun H' Z' c' cls dd a s x => q σ H' Z' c' cls dd (R'.adv.trans a) s x
  | ok d S' =>
    rw [hf] at q
    intro v H1 Z1 c1 a s rk
    refine hR E δ S' Z1 c1 v d H1 (R'.step a s) rk (rk.back R'.adv) (fun a' ha j hj e => ?_) q
    obtain ⟨d', b, o, _, h2, h3, _⟩ := R'.os j hj
    rw [e] at h2; cases h2
    rw [ha] at h3; cases h3

/-! ### x = e -/
def mdK : Kd → Md
  | .o => .o
  | _ => .z
def sAsg (i : Nat) (f : Dl → Store → Res) : Dl → Store → SRes := fun δ S => bindS (f δ S) fun d S' => .nx (δ.set i (some d)) S'
theorem Rst.setK {E : Ent pv} {δ : Dl} {S : Store} {Z : Addr → Prop} {c : List Addr} {σ : L2.St} {H H0 : Hp} {k : Kd} {v : V} {d : D} {i : Nat} (r : Rst G.gv pv E m δ S Z c σ H) (hk : k ≠ .b) (hi : i < σ.length) (h0 : RK G.gv k H0 H Z c v d) (hE : RK G.gv k E.H H Z c v d)
    (hf : ∀ a, H0 a = none → ∀ j : Nat, m[j]? = some .o → σ[j]? ≠ some (some (.ref a))) : Rst G.gv pv E (m.set i (mdK k)) (δ.set i (some d)) S Z c (σ.set i (some v)) H := by
  cases k with
  | z => exact r.setZ hi h0
  | b => exact absurd rfl hk
  | o =>
    obtain ⟨a, o, rfl, h1, h2, h3, h4, h5, h6⟩ := h0
    obtain ⟨a', o', e, _, _, _, _, _, h7⟩ := hE
    cases e
    exact r.setO hi h1 h2 h3 h4 h5 h7 fun j _ hj => hf a h6 j hj
theorem asg_tS {i : Nat} {f : Dl → Store → Res} {k : Kd} {okm : List Md → Prop} (hk : k ≠ .b) (hok : okm m) {D : Ends} {σ : L2.St} {H : Hp} (hi : i < m.length) (q : tS G W pv rk (sAsg i f) m (m.set i (mdK k)) D σ H) : tAsg (tE G W pv f k okm) (gName i) D σ H :=
  st_of (k := k) hok q fun E δ S1 Z1 c1 v d H1 R r0 rE hf p => p _ H1 Z1 c1 (R.setK hk (by rw [← R.lm]; exact hi) r0 rE hf)
theorem ps_setD {i : Nat} {x : Str} {e : Expr} {f : Dl → Store → Res} {k : Kd} {okm : List Md → Prop} {pos pos' : Pos} (hN : X.N.Nodup) (h : NameOk X i x) (hk : k ≠ .b) (hok : okm m) (hi : i < m.length) (he : PE X e (tE G W pv f k okm)) (hs : swapsWith e (some (.Name x pos')) pos.line X.env = pure false) :
    PS X (.Assign [.Name x pos'] e pos) (tS G W pv rk (sAsg i f) m (m.set i (mdK k))) := (ps_set hN h.n h.l he hs h.f).impD fun D σ H q => asg_tS hk hok hi q
theorem ps_asgImp {st : Stmt} {te te' : TE} {g : TG} (h : PS X st (tAsg te g)) (hw : ∀ σ H Q, te' σ H Q → te σ H Q) : PS X st (tAsg te' g) := h.impD fun D σ H q => hw _ _ _ q
/-- x = y, y's own list given up -/
def sMov (i j : Nat) : Dl → Store → SRes := fun δ S => match δ[j]? with
  | some (some d) => .nx (δ.set i (some d)) S
  | _ => .st
theorem ps_movD {i j : Nat} {x : Str} {e : Expr} {pos pos' : Pos} (hN : X.N.Nodup) (h : NameOk X i x) (hm : m[j]? = some .o) (hi : i < m.length) (he : PE X e (tVar j)) (hs : swapsWith e (some (.Name x pos')) pos.line X.env = pure false) :
    PS X (.Assign [.Name x pos'] e pos) (tS G W pv rk (sMov i j) m ((m.set j .x).set i .o)) := (ps_set hN h.n h.l he hs h.f).impD fun D σ H q => by
  obtain ⟨E, δ, S, Z, c, R, q⟩ := q
  obtain ⟨d, a, o, h1, h2, h3, h4, h5, h6, h7, h8⟩ := R.os j hm
  unfold sMov at q
  rw [h1] at q
  refine ⟨_, h2, q _ H Z c ?_⟩
  refine (R.drop j).setO (by rw [← R.lm]; exact hi) h3 h4 h5 h6 h7 h8 fun l hl hlo e2 => ?_
  rcases getElem?_set' hlo with ⟨_, z, _⟩ | ⟨ne, hlo⟩
  · cases z
  · exact R.ds j l a ne hm hlo h2 e2
/-- targets = e -/
def sTgt (t : Tgt) (f : Dl → Store → Res) : Dl → Store → SRes := fun δ S => bindS (f δ S) fun d S' => match bindT t d δ with
  | some δ' => .nx δ' S'
  | none => .st
theorem ps_tgtD {e tg : Expr} {t : Tgt} {f : Dl → Store → Res} {okm : List Md → Prop} {pos : Pos} (hc : X.calm = true) (hN : X.N.Nodup) (h : TgOk X tg t) (hok : okm m) (he : PE X e (tE G W pv f .z okm)) (hs : swapsWithSole [tg] e pos.line X.env = pure false) (hw : swappedStores [tg] e X.env = pure none) :
    PS X (.Assign [tg] e pos) (tS G W pv rk (sTgt t f) m (mdT t m)) := (ps_asg he (pg_tgD (G := G) (pv := pv) hc hN h) hs hw (by cases h <;> rfl)).impD fun D σ H q =>
  st_of (g := fun d δ S' => match bindT t d δ with
    | some δ' => .nx δ' S'
    | none => .st) (k := .z) hok q fun E δ S1 Z1 c1 v d H1 R r0 rE hf p => by
    cases hb : bindT t d δ with
    | none => rw [hb] at p; exact p.elim
    | some δ' =>
      rw [hb] at p
      exact ⟨E, m, δ, S1, Z1, c1, d, δ', R, r0, hb, fun σ' R' _ => p σ' H1 Z1 c1 R'⟩
/-- x, y = e, e' -/
def sPar (i j : Nat) (f g : Dl → Store → Res) : Dl → Store → SRes := fun δ S => bindS (f δ S) fun d S1 => bindS (g δ S1) fun d' S2 => .nx ((δ.set i (some d)).set j (some d')) S2
theorem RK.fwd {gv : Gv} {k : Kd} {H0 H H' : Hp} {Z Z' : Addr → Prop} {c c' : List Addr} {S : Store} {v : V} {d : D} (h : RK gv k H0 H Z c v d) (a : Adv pv H Z c H' Z' c') (s : StoreOk gv H Z c S) : RK gv k H0 H' Z' c' v d := by
  cases k with
  | z => exact Rep.mono (a.grow s) h
  | b => exact Vw.mono a s h
  | o =>
    obtain ⟨p, o, rfl, h1, h2, h3, h4, h5, h6⟩ := h
    refine ⟨p, o, rfl, a.keep _ _ h1 (.inr h5) (mut_nt h2), h2, h3.mono (a.grow s), fun z => ?_, ?_, h6⟩
    · rcases a.zn p z with z | z
      · exact h4 z
      · rw [h1] at z; cases z
    · obtain ⟨n, e, hn⟩ := a.cn
      rw [e, List.mem_append]
      rintro (z | z)
      · exact h5 z
      · rw [hn p z] at h1; cases h1
theorem par_tS {i j : Nat} {f g : Dl → Store → Res} {k k' : Kd} {okm okm' : List Md → Prop} (hk : k ≠ .b) (hk' : k' ≠ .b) (hok : okm m) (hok' : okm' m) (hi : i < m.length) (hj : j < m.length) {D : Ends} {σ : L2.St} {H : Hp}
    (q : tS G W pv rk (sPar i j f g) m ((m.set i (mdK k)).set j (mdK k')) D σ H) : tPar i j (tCons (tE G W pv f k okm) (tCons (tE G W pv g k' okm') tNil)) D σ H := by
  obtain ⟨E, δ, S, Z, c, R, q⟩ := q
  refine ⟨E, m, δ, S, Z, c, R, hok, ?_⟩
  unfold sPar bindS at q
  cases hf : f δ S with
  | st => rw [hf] at q; exact q
  | ex n ds S' => rw [hf] at q; exact fun H' Z' c' cls dd a s x => q σ H' Z' c' cls dd (R.adv.trans a) s x
  | ok d S1 =>
    rw [hf] at q
    dsimp only at q
    intro v H1 Z1 c1 a s r1
    have R1 := R.step a s
    refine ⟨E, m, δ, S1, Z1, c1, R1, hok', ?_⟩
    cases hg : g δ S1 with
    | st => rw [hg] at q; exact q
    | ex n ds S' => rw [hg] at q; exact fun H' Z' c' cls dd a' s' x => q σ H' Z' c' cls dd ((R.adv.trans a).trans a') s' x
    | ok d' S2 =>
      rw [hg] at q
      dsimp only at q
      intro w H2 Z2 c2 a' s' r2
      refine ⟨v, w, rfl, q _ H2 Z2 c2 ?_⟩
      have R2 := R1.step a' s'
      have f1 : ∀ b, H b = none → ∀ l : Nat, m[l]? = some .o → σ[l]? ≠ some (some (.ref b)) := fun b hb l hl e => by
        obtain ⟨_, b', o, _, h2, h3, _⟩ := R.os l hl
        rw [e] at h2; cases h2
        rw [hb] at h3; cases h3
      have f2 : ∀ b, H1 b = none → ∀ l : Nat, m[l]? = some .o → σ[l]? ≠ some (some (.ref b)) := fun b hb l hl e => by
        obtain ⟨_, b', o, _, h2, h3, _⟩ := R1.os l hl
        rw [e] at h2; cases h2
        rw [hb] at h3; cases h3
      have A := R2.setK (i := i) hk (by rw [← R.lm]; exact hi) (r1.fwd a' s) ((r1.back R.adv).fwd a' s) f1
      refine A.setK (H0 := H1) hk' (by rw [List.length_set, ← R.lm]; exact hj) r2 (r2.back (R.adv.trans a)) fun b hb l hl e => ?_
      rcases getElem?_set' hl with ⟨e1, hm, hlt⟩ | ⟨ne, hl⟩
      · subst e1
        rw [List.getElem?_set_self (by rw [← R.lm]; exact hlt)] at e
        cases e
        cases k with
        | o =>
          obtain ⟨p, o, e, h1, _⟩ := r1
          cases e
          rw [hb] at h1; cases h1
        | _ => cases hm
      · rw [List.getElem?_set_ne ne] at e
        exact f2 b hb l hl e
theorem ps_parD {i j : Nat} {x y : Str} {a b : Expr} {f g : Dl → Store → Res} {k k' : Kd} {okm okm' : List Md → Prop} {px py pt pos pt2 : Pos} {kt k2 : Nat} (hc : X.calm = true) (hN : X.N.Nodup) (h1 : NameOk X i x) (h2 : NameOk X j y) (hk : k ≠ .b) (hk' : k' ≠ .b) (hok : okm m) (hok' : okm' m) (hi : i < m.length) (hj : j < m.length)
    (h : PS X (.Assign [.Tuple [.Name x px, .Name y py] kt pt] (.Tuple [a, b] k2 pt2) pos) (tPar i j (tCons (tE G W pv f k okm) (tCons (tE G W pv g k' okm') tNil)))) :
    PS X (.Assign [.Tuple [.Name x px, .Name y py] kt pt] (.Tuple [a, b] k2 pt2) pos) (tS G W pv rk (sPar i j f g) m ((m.set i (mdK k)).set j (mdK k'))) := h.impD fun D σ H q => par_tS hk hk' hok hok' hi hj q

/-! ### e; return -/
def sExpr (f : Dl → Store → Res) : Dl → Store → SRes := fun δ S => bindS (f δ S) fun _ S' => .nx δ S'
theorem ps_exprD {e : Expr} {f : Dl → Store → Res} {k : Kd} {okm : List Md → Prop} {pos : Pos} (hok : okm m) (he : PE X e (tE G W pv f k okm)) (hs : swapsWith e none pos.line X.env = pure false) : PS X (.Expr e pos) (tS G W pv rk (sExpr f) m m) := (ps_expr he hs).impD fun D σ H q =>
  st_of (g := fun _ δ S' => .nx δ S') (k := k) hok q fun E δ S1 Z1 c1 v d H1 R r0 rE hf p => p σ H1 Z1 c1 R
def sRet (f : Dl → Store → Res) : Dl → Store → SRes := fun δ S => bindS (f δ S) fun d S' => .ret d S'
theorem ps_retD {e : Expr} {f : Dl → Store → Res} {k : Kd} {okm : List Md → Prop} {pos : Pos} (hk : k ≠ .b) (hr : rk = k ∨ rk = .z) (hok : okm m) (he : PE X e (tE G W pv f k okm)) : PS X (.Return (some e) pos) (tS G W pv rk (sRet f) m m') := (ps_ret he).impD fun D σ H q =>
  st_of (m' := m') (g := fun d _ S' => .ret d S') (k := k) hok q fun E δ S1 Z1 c1 v d H1 R r0 rE hf p => by
    rcases hr with hr | hr
    · subst hr
      exact p v H1 Z1 c1 R.adv R.st rE
    · subst hr
      obtain ⟨Z2, a2, s2, r2, _⟩ := rE.frz hk R.adv R.st
      exact p v H1 Z2 c1 a2 s2 r2
def sRetV (i : Nat) : Dl → Store → SRes := fun δ S => match δ[i]? with
  | some (some d) => .ret d S
  | _ => .st
/-- return x, x's own list handed out -/
theorem ps_retO {e : Expr} {i : Nat} {pos : Pos} (hr : rk = .o) (hm : m[i]? = some .o) (he : PE X e (tVar i)) : PS X (.Return (some e) pos) (tS G W pv rk (sRetV i) m m') := (ps_ret he).impD fun D σ H q => by
  obtain ⟨E, δ, S, Z, c, R, q⟩ := q
  obtain ⟨d, a, o, h1, h2, h3, h4, h5, h6, h7, h8⟩ := R.os i hm
  unfold sRetV at q
  rw [h1] at q
  subst hr
  exact ⟨_, h2, q (.ref a) H Z c R.adv R.st ⟨a, o, rfl, h3, h4, h5, h6, h7, h8⟩⟩
def sRetN : Dl → Store → SRes := fun _ S => .ret .non S
theorem ps_retND {pos : Pos} (hr : rk = .z) : PS X (.Return none pos) (tS G W pv rk sRetN m m') := ps_retN.impD fun D σ H q => by
  obtain ⟨E, δ, S, Z, c, R, q⟩ := q
  subst hr
  exact q .non H Z c R.adv R.st .non

/-! ### if -/
def sIf (t : Dl → Store → Res) (f g : Dl → Store → SRes) : Dl → Store → SRes := fun δ S => bindS (t δ S) fun d S1 => match d with
  | .bl true => f δ S1
  | .bl false => g δ S1
  | _ => .st
theorem ps_ifD {t : Expr} {a b : List Stmt} {ft : Dl → Store → Res} {f g : Dl → Store → SRes} {okt : List Md → Prop} {pos : Pos} (hok : okt m) (ht : PT X t (tTst G W pv ft okt)) (ha : PSs X a (tS G W pv rk f m m')) (hb : PSs X b (tS G W pv rk g m m')) :
    PS X (.If t a b pos) (tS G W pv rk (sIf ft f g) m m') := (ps_if ht ha hb).impD fun D σ H q => by
  obtain ⟨E, δ, S, Z, c, R, q⟩ := q
  refine ⟨E, m, δ, S, Z, c, R, hok, ?_⟩
  unfold sIf bindS at q
  cases hf : ft δ S with
  | st => rw [hf] at q; exact q
  | ex j ds S' => rw [hf] at q; exact fun H' Z' c' cls dd a s x => q σ H' Z' c' cls dd (R.adv.trans a) s x
  | ok d S1 =>
    rw [hf] at q
    cases d with
    | bl b =>
      refine ⟨b, rfl, fun H1 Z1 c1 a s => ?_⟩
      cases b with
      | true => exact L2.iteT ⟨E, δ, S1, Z1, c1, R.step a s, q⟩
      | false => exact L2.iteF ⟨E, δ, S1, Z1, c1, R.step a s, q⟩
    | _ => exact q.elim

/-! ### for, while -/
def forD (t : Tgt) (body : Dl → Store → SRes) : List D → Dl → Store → SRes
  | [], δ, S => .nx δ S
  | x :: xs, δ, S => match bindT t x δ with
    | none => .st
    | some δ1 => match body δ1 S with
      | .nx δ2 S2 => forD t body xs δ2 S2
      | r => r
def sFor (t : Tgt) (it : Dl → Store → Ress) (body : Dl → Store → SRes) : Dl → Store → SRes := fun δ S => match it δ S with
  | .st => .st
  | .ex j ds S' => .ex j ds S'
  | .ok items S1 => forD t body items δ S1
theorem for_tS {t : Tgt} {fi : Dl → Store → Ress} {fb : Dl → Store → SRes} {okm : List Md → Prop} (hok : okm m) (hcv : cv m2 m = true) {D : Ends} {σ : L2.St} {H : Hp} (q : tS G W pv rk (sFor t fi fb) m m D σ H) :
    tFor (tIt G W pv fi okm) (tTg G pv t) (tS G W pv rk fb (mdT t m) m2) D σ H := by
  obtain ⟨E, δ, S, Z, c, R, q⟩ := q
  refine ⟨E, m, δ, S, Z, c, R, hok, ?_⟩
  unfold sFor at q
  cases hf : fi δ S with
  | st => rw [hf] at q; exact q
  | ex j ds S' => rw [hf] at q; exact fun H' Z' c' cls dd a s x => q σ H' Z' c' cls dd (R.adv.trans a) s x
  | ok items S1 =>
    rw [hf] at q
    dsimp only at q
    intro J H1 Z1 c1 a s wk
    have R1 := R.step a s
    let E1 : Ent pv := ⟨E.H, E.Z, E.c, fun H Z c => E.P H Z c ∧ Go pv H1 Z1 c1 H Z c, fun H Z c H' Z' c' g p => ⟨E.pm _ _ _ _ _ _ g p.1, p.2.trans g⟩⟩
    refine ⟨fun i mm σ2 H2 => mm = items.length - i ∧ i ≤ items.length ∧ ∃ δ2 S2 Z2 c2, Rst G.gv pv E1 m δ2 S2 Z2 c2 σ2 H2 ∧ postS G W pv rk m E D (forD t fb (items.drop i) δ2 S2),
      ⟨items.length, by simp, Nat.zero_le _, δ, S1, Z1, c1, ⟨R1.st, R1.adv, ⟨R1.an, Go.refl⟩, R1.lm, R1.ld, R1.zs, R1.os, R1.ds⟩, by rw [List.drop_zero]; exact q⟩, fun i mm σ2 H2 hI => ?_⟩
    obtain ⟨rfl, hi, δ2, S2, Z2, c2, R2, q2⟩ := hI
    have wk2 := wk H2 Z2 c2 S2 R2.an.2 R2.st
    by_cases hlt : i < items.length
    · right
      have hd : items.drop i = items[i] :: items.drop (i + 1) := List.drop_eq_getElem_cons hlt
      rw [hd] at q2
      unfold forD at q2
      refine ⟨wk2.1 i hlt, fun σ3 H3 => ∃ δ3 S3 Z3 c3, Rst G.gv pv E1 m δ3 S3 Z3 c3 σ3 H3 ∧ postS G W pv rk m E D (forD t fb (items.drop (i + 1)) δ3 S3), fun σ3 H3 ⟨δ3, S3, Z3, c3, R3, q3⟩ => ⟨items.length - (i + 1), by omega, rfl, hlt, δ3, S3, Z3, c3, R3, q3⟩, fun x H3 hy => ?_⟩
      obtain ⟨Z3, a3, s3, r3⟩ := wk2.2.2 i items[i] x H3 (List.getElem?_eq_getElem hlt) hy
      cases hb : bindT t items[i] δ2 with
      | none => rw [hb] at q2; exact q2.elim
      | some δ1 =>
        rw [hb] at q2
        dsimp only at q2
        refine ⟨E1, m, δ2, S2, Z3, c2, items[i], δ1, R2.step a3 s3, r3, hb, fun σ3 R3 _ => ⟨E1, δ1, S2, Z3, c2, R3, ?_⟩⟩
        cases hfb : fb δ1 S2 with
        | st => rw [hfb] at q2; exact q2
        | ex j ds S' => rw [hfb] at q2; exact q2
        | ret d S' => rw [hfb] at q2; exact q2
        | nx δ3 S3 =>
          rw [hfb] at q2
          intro σ4 H4 Z4 c4 R4
          obtain ⟨Z5, R5, _⟩ := R4.conv hcv
          exact ⟨δ3, S3, Z5, c4, R5, q2⟩
    · left
      have hi' : i = items.length := by omega
      subst hi'
      rw [List.drop_length] at q2
      unfold forD at q2
      refine ⟨wk2.2.1 _ (Nat.le_refl _), q2 σ2 H2 Z2 c2 ⟨R2.st, R2.adv, R2.an.1, R2.lm, R2.ld, R2.zs, R2.os, R2.ds⟩⟩
theorem ps_forD {tg iter : Expr} {body : List Stmt} {t : Tgt} {fi : Dl → Store → Ress} {fb : Dl → Store → SRes} {okm : List Md → Prop} {pos : Pos} (hp : PassesOwn (model X.prog X.w) X.A X.env X.xe) (hc : X.calm = true) (hN : X.N.Nodup) (h : TgOk X tg t) (hok : okm m) (hcv : cv m2 m = true)
    (hi : PI X tg iter (tIt G W pv fi okm)) (hb : PSs X body (tS G W pv rk fb (mdT t m) m2)) (hs : ∀ x, foldedSetIterable iter X.env x = pure x) : PS X (.For tg iter body [] pos) (tS G W pv rk (sFor t fi fb) m m) :=
  (ps_for hp hc hi (pg_tgD (G := G) (pv := pv) hc hN h) hb hs).impD fun D σ H q => for_tS hok hcv q
/-- n: more than the turns -/
def whileD (t : Dl → Store → Res) (body : Dl → Store → SRes) : Nat → Dl → Store → SRes
  | 0, _, _ => .st
  | n + 1, δ, S => bindS (t δ S) fun d S1 => match d with
    | .bl true => (match body δ S1 with
      | .nx δ2 S2 => whileD t body n δ2 S2
      | r => r)
    | .bl false => .nx δ S1
    | _ => .st
theorem ps_whileD {c : Expr} {body : List Stmt} {ft : Dl → Store → Res} {fb : Dl → Store → SRes} {okt : List Md → Prop} {pos : Pos} {n : Nat} (hp : PassesOwn (model X.prog X.w) X.A X.env X.xe) (hok : okt m) (hcv : cv m2 m = true) (ht : PT X c (tTst G W pv ft okt)) (hb : PSs X body (tS G W pv rk fb m m2)) :
    PS X (.While c body [] pos) (tS G W pv rk (whileD ft fb n) m m) := (ps_while hp ht hb).impD fun D σ H q => by
  obtain ⟨E, δ, S, Z, c, R, q⟩ := q
  refine ⟨fun k σ2 H2 => ∃ δ2 S2 Z2 c2, Rst G.gv pv E m δ2 S2 Z2 c2 σ2 H2 ∧ postS G W pv rk m E D (whileD ft fb k δ2 S2), ⟨n, δ, S, Z, c, R, q⟩, fun k σ2 H2 hI => ?_⟩
  obtain ⟨δ2, S2, Z2, c2, R2, q2⟩ := hI
  cases k with
  | zero => exact q2.elim
  | succ k =>
    refine ⟨E, m, δ2, S2, Z2, c2, R2, hok, ?_⟩
    unfold whileD bindS at q2
    cases hf : ft δ2 S2 with
    | st => rw [hf] at q2; exact q2
    | ex j ds S' => rw [hf] at q2; exact fun H' Z' c' cls dd a s x => q2 σ2 H' Z' c' cls dd (R2.adv.trans a) s x
    | ok d S3 =>
      rw [hf] at q2
      cases d with
      | bl b =>
        refine ⟨b, rfl, fun H3 Z3 c3 a s => ?_⟩
        have R3 := R2.step a s
        cases b with
        | false => exact L2.iteF (q2 σ2 H3 Z3 c3 R3)
        | true =>
          refine L2.iteT ⟨fun σ3 H3 => ∃ δ3 S4 Z3 c3, Rst G.gv pv E m δ3 S4 Z3 c3 σ3 H3 ∧ postS G W pv rk m E D (whileD ft fb k δ3 S4), fun σ3 H3 h => ⟨k, Nat.lt_succ_self _, h⟩, E, δ2, S3, Z3, c3, R3, ?_⟩
          dsimp only at q2
          cases hfb : fb δ2 S3 with
          | st => rw [hfb] at q2; exact q2
          | ex j ds S' => rw [hfb] at q2; exact q2
          | ret d S' => rw [hfb] at q2; exact q2
          | nx δ3 S4 =>
            rw [hfb] at q2
            intro σ4 H4 Z4 c4 R4
            obtain ⟨Z5, R5, _⟩ := R4.conv hcv
            exact ⟨δ3, S4, Z5, c4, R5, q2⟩
      | _ => exact q2.elim
end
end VI
end

section
set_option Elab.async false
set_option linter.all false
set_option autoImplicit false
set_option maxRecDepth 100000
/-! VI, 10: lists and dicts changed in place: a slot's own, a cell's -/
namespace VI
open PySem PySem.Spec L2

/-- what a method does with the thing it is called on: the answer, the thing behind it -/
abbrev MutF := Store → D → List D → Option (D × D)
def OpM (G : Gc) (r : V → List V → Hp → VK → Prop) (g : MutF) : Prop :=
  ∀ (H : Hp) (Z : Addr → Prop) (c : List Addr) (S : Store) (a : Addr) (o : HO) (d : D) (ds : List D) (vs : List V) (e d' : D) (Q : VK), StoreOk G.gv H Z c S → H a = some o → isMut o → Bd G.gv H Z c o d → Reps G.gv H Z c vs ds → g S d ds = some (e, d') →
    (∀ v o', isMut o' → Bd G.gv H Z c o' d' → Rep G.gv H Z c v e → Q v (upd H a o')) → r (.ref a) vs H Q
def mApp : MutF := fun _ d ds => match d, ds with
  | .lst xs, [y] => if xs.length < sizeLine then some (.non, .lst (xs ++ [y])) else none
  | _, _ => none
def mExt : MutF := fun S d ds => match d, ds with
  | .lst xs, [y] => (match der S y with
    | .lst ys => if xs.length + ys.length ≤ sizeLine then some (.non, .lst (xs ++ ys)) else none
    | _ => none)
  | _, _ => none
def mPop : MutF := fun _ d ds => match d, ds with
  | .lst xs, [] => (xs[xs.length - 1]?).map fun y => (y, .lst xs.dropLast)
  | _, _ => none
def mPopAt : MutF := fun _ d ds => match d, ds with
  | .lst xs, [.int i] => if -(2 ^ 63) ≤ i ∧ i < 2 ^ 63 then (ixN xs.length i).bind fun k => (xs[k]?).map fun y => (y, .lst (xs.eraseIdx k)) else none
  | _, _ => none
def mIns : MutF := fun _ d ds => match d, ds with
  | .lst xs, [.int i, y] => if xs.length < sizeLine ∧ 0 ≤ i ∧ i < 2 ^ 63 then some (.non, .lst (xs.take i.toNat ++ [y] ++ xs.drop i.toNat)) else none
  | _, _ => none
section
variable {G : Gc} {X : Cx}
theorem bd_lst {gv : Gv} {H : Hp} {Z : Addr → Prop} {c : List Addr} {o : HO} {xs : List D} (b : Bd gv H Z c o (.lst xs)) : ∃ vs, o = .lst vs ∧ Reps gv H Z c vs xs := by
  cases b with
  | lst r => exact ⟨_, rfl, r⟩
theorem reps1 {gv : Gv} {H : Hp} {Z : Addr → Prop} {c : List Addr} {vs : List V} {d : D} (h : Reps gv H Z c vs [d]) : ∃ v, vs = [v] ∧ Rep gv H Z c v d := by
  cases h with
  | cons r t => cases t; exact ⟨_, rfl, r⟩
theorem reps2 {gv : Gv} {H : Hp} {Z : Addr → Prop} {c : List Addr} {vs : List V} {d e : D} (h : Reps gv H Z c vs [d, e]) : ∃ v w, vs = [v, w] ∧ Rep gv H Z c v d ∧ Rep gv H Z c w e := by
  cases h with
  | cons r t => obtain ⟨w, rfl, q⟩ := reps1 t; exact ⟨_, _, rfl, r, q⟩
theorem app_ok : OpM G rAppend mApp := by
  intro H Z c S a o d ds vs e d' Q s h hm b rs hg q
  unfold mApp at hg
  split at hg
  · rename_i xs y
    split at hg
    · rename_i hl
      cases hg
      obtain ⟨us, rfl, ru⟩ := bd_lst b
      obtain ⟨v, rfl, rv⟩ := reps1 rs
      exact ⟨a, us, v, rfl, rfl, h, by rw [ru.length]; exact hl, q .non (.lst (us ++ [v])) trivial (.lst (ru.append (.cons rv .nil))) .non⟩
    · cases hg
  · cases hg
theorem ext_ok : OpM G rExtend mExt := by
  intro H Z c S a o d ds vs e d' Q s h hm b rs hg q
  unfold mExt at hg
  split at hg
  · rename_i xs y
    split at hg
    · rename_i ys e1
      split at hg
      · rename_i hl
        cases hg
        obtain ⟨us, rfl, ru⟩ := bd_lst b
        obtain ⟨v, rfl, rv⟩ := reps1 rs
        have hv := (Vw.rep rv).der s
        rw [e1] at hv
        obtain ⟨p, ws, rfl, hp, rw'⟩ := hv.lst
        exact ⟨a, p, us, ws, rfl, rfl, h, hp, by rw [ru.length, rw'.length]; exact hl, q .non (.lst (us ++ ws)) trivial (.lst (ru.append rw')) .non⟩
      · cases hg
    · cases hg
  · cases hg
theorem pop_ok : OpM G rPop mPop := by
  intro H Z c S a o d ds vs e d' Q s h hm b rs hg q
  unfold mPop at hg
  split at hg
  · rename_i xs
    rw [Option.map_eq_some_iff] at hg
    obtain ⟨y, hy, e1⟩ := hg
    cases e1
    obtain ⟨us, rfl, ru⟩ := bd_lst b
    cases rs
    obtain ⟨v, hv, rv⟩ := ru.get hy
    exact ⟨a, us, v, rfl, rfl, h, by rw [ru.length]; exact hv, q v (.lst us.dropLast) trivial (.lst ru.dropLast) rv⟩
  · cases hg
theorem popAt_ok : OpM G rPopAt mPopAt := by
  intro H Z c S a o d ds vs e d' Q s h hm b rs hg q
  unfold mPopAt at hg
  split at hg
  · rename_i xs i
    split at hg
    · rename_i hb
      rw [Option.bind_eq_some_iff] at hg
      obtain ⟨k, hk, hg⟩ := hg
      rw [Option.map_eq_some_iff] at hg
      obtain ⟨y, hy, e1⟩ := hg
      cases e1
      obtain ⟨us, rfl, ru⟩ := bd_lst b
      obtain ⟨v, rfl, rv⟩ := reps1 rs
      obtain ⟨w, hw, rw'⟩ := ru.get hy
      have hk2 := (ixN_seq hk).1
      rw [← ru.length] at hk2
      refine ⟨a, us, i, k, w, rfl, ?_, h, hb.1, hb.2, hk2, hw, q w (.lst (us.eraseIdx k)) trivial (.lst (ru.eraseIdx k)) rw'⟩
      rw [(Vr.rep rv).int]
    · cases hg
  · cases hg
theorem ins_ok : OpM G (fun x vs H Q => ∃ (l : Addr) (xs : List V) (i : Int) (y : V), x = .ref l ∧ vs = [.int i, y] ∧ H l = some (.lst xs) ∧ xs.length < sizeLine ∧ 0 ≤ i ∧ i < 2 ^ 63 ∧
    Q .non (upd H l (.lst (xs.take i.toNat ++ [y] ++ xs.drop i.toNat)))) mIns := by
  intro H Z c S a o d ds vs e d' Q s h hm b rs hg q
  unfold mIns at hg
  split at hg
  · rename_i xs i y
    split at hg
    · rename_i hb
      cases hg
      obtain ⟨us, rfl, ru⟩ := bd_lst b
      obtain ⟨v, w, rfl, r1, r2⟩ := reps2 rs
      exact ⟨a, us, i, w, rfl, by rw [(Vr.rep r1).int], h, by rw [ru.length]; exact hb.1, hb.2.1, hb.2.2,
        q .non (.lst (us.take i.toNat ++ [w] ++ us.drop i.toNat)) trivial (.lst (((ru.take _).append (.cons r2 .nil)).append (ru.drop _))) .non⟩
    · cases hg
  · cases hg

/-! ### x[i] = v: a list, a dict -/
def mSet : Store → D → D → D → Option D := fun S d i v => match d with
  | .lst xs => (match i with
    | .int k => (ixN xs.length k).map fun j => .lst (xs.set j v)
    | _ => none)
  | .dct t ks vs => if aKey t i && decide (ks.length < sizeLine) then (let r := dput ks vs i v; some (.dct t r.1 r.2)) else none
  | _ => none
def rPutD : V → V → V → Hp → (Hp → Prop) → Prop := fun o i v H Q => ∃ a H4, o = .ref a ∧ DPut H a i v H4 ∧ Q H4
def rSetA : V → V → V → Hp → (Hp → Prop) → Prop := fun o i v H Q => rSetL o i v H Q ∨ rPutD o i v H Q
theorem set_any (hu : X.A.units + 1 < cLine) : PSet X rSetA := by
  intro pins s σ H o i v ov iv u Q I ro ri rv h
  rcases h with h | ⟨a, H4, rfl, g, q⟩
  · exact set_list pins s σ H o i v ov iv u Q I ro ri rv h
  · cases ro
    exact d_setItem hu I g ri rv fun s4 I4 => ⟨H4, I4, q⟩
theorem kV_of {gv : Gv} {H : Hp} {Z : Addr → Prop} {c : List Addr} {w : V} {k : Key} (h : Vr gv H Z c w (keyD k)) : w = kV k := by
  cases k with
  | inl i => exact h.int
  | inr x => exact h.str
theorem kVs_of {gv : Gv} {H : Hp} {Z : Addr → Prop} {c : List Addr} : ∀ {us : List V} {k : List Key}, Reps gv H Z c us (k.map keyD) → us = k.map kV
  | _, [], .nil => rfl
  | _, x :: k, .cons q t => by
    rw [List.map_cons, ← kVs_of t, ← kV_of (.rep q)]
theorem mset_ok {H : Hp} {Z : Addr → Prop} {c : List Addr} {S : Store} {a : Addr} {o : HO} {d i v d' : D} {iv vv : V} {Q : Hp → Prop} (s : StoreOk G.gv H Z c S) (h : H a = some o) (hm : isMut o) (b : Bd G.gv H Z c o d) (hi : Vr G.gv H Z c iv i) (hv : Rep G.gv H Z c vv v) (hg : mSet S d i v = some d')
    (q : ∀ o', isMut o' → Bd G.gv H Z c o' d' → Q (upd H a o')) : rSetA (.ref a) iv vv H Q := by
  unfold mSet at hg
  split at hg
  · rename_i xs
    split at hg
    · rename_i k
      rw [Option.map_eq_some_iff] at hg
      obtain ⟨j, hj, e⟩ := hg
      subst e
      obtain ⟨us, rfl, ru⟩ := bd_lst b
      exact .inl ⟨a, us, k, j, rfl, hi.int, h, by rw [ru.length]; exact hj, q (.lst (us.set j vv)) trivial (.lst (ru.set hv j))⟩
    · cases hg
  · rename_i t ks vs
    split at hg
    · rename_i hk
      rw [Bool.and_eq_true, decide_eq_true_eq] at hk
      cases hg
      right
      cases b with
      | dK e r =>
        rename_i kvs
        obtain ⟨k, rfl⟩ := isKey_of hk.1
        subst e
        have := kV_of hi
        subst this
        rw [List.length_map] at hk
        obtain ⟨p1, p2⟩ := put_of (f := keyD) beq_keyD (k := k) hv r
        exact ⟨a, _, rfl, .k h hk.2, q _ trivial (by rw [p1]; exact .dK rfl p2)⟩
      | dT e r =>
        rename_i kvs
        cases i with
        | tup xs =>
          obtain ⟨k, rfl⟩ := isKeys_of (ds := xs) hk.1
          subst e
          obtain ⟨b, us, rfl, hb, rs, _⟩ := hi.tup
          have := kVs_of rs
          subst this
          rw [List.length_map] at hk
          obtain ⟨p1, p2⟩ := put_of (f := fun k => D.tup (k.map keyD)) (fun a b => by rw [D.beq]; exact beqs_keyD a b) (k := k) hv r
          exact ⟨a, _, rfl, .t h hb hk.2, q _ trivial (by rw [p1]; exact .dT rfl p2)⟩
        | _ => cases hk.1
    · cases hg
  · cases hg
end

section
variable {G : Gc} {W : WX} {pv : Bool} {X : Cx} {rk : Kd} {m m' m2 : List Md}
/-- a slot's own thing is changed -/
theorem Rst.mut {E : Ent pv} {δ : Dl} {S : Store} {Z : Addr → Prop} {c : List Addr} {σ : L2.St} {H : Hp} (r : Rst G.gv pv E m δ S Z c σ H) {i : Nat} {a : Addr} {o o' : HO} {d' : D} (hi : m[i]? = some .o) (ha : σ[i]? = some (some (.ref a))) (h : H a = some o) (hm : isMut o) (nz : ¬ Z a) (nc : a ∉ c) (hE : E.H a = none)
    (hm' : isMut o') (hb : Bd G.gv H Z c o' d') : Rst G.gv pv E m (δ.set i (some d')) S Z c σ (upd H a o') := by
  have g : Grow H Z c (upd H a o') Z c := Grow.upd (gv := G.gv) h hm nz
  have hil : i < δ.length := by rw [r.ld]; exact (List.getElem?_eq_some_iff.mp ha).1
  refine ⟨r.st.upd h hm nz nc (by first | exact mut_nt hm' | exact mut_nt ‹isMut o'›), r.adv.upd hE, E.pm _ _ _ _ _ _ ⟨g, fun _ x hx w e => by rw [upd_ne (fun z : x = a => nc (by rw [← z]; exact hx))]; exact e, fun x w z e _ => by rw [upd_ne (fun y : x = a => nz (by rw [← y]; exact z))]; exact e⟩ r.an, r.lm, by rw [List.length_set]; exact r.ld, fun j d h1 h2 => ?_, fun j hj => ?_, r.ds⟩
  · have ne : i ≠ j := by rintro rfl; rw [hi] at h1; cases h1
    rw [List.getElem?_set_ne ne] at h2
    obtain ⟨v, h3, h4⟩ := r.zs j d h1 h2
    exact ⟨v, h3, h4.mono g⟩
  · by_cases ne : i = j
    · subst ne
      exact ⟨d', a, o', by rw [List.getElem?_set_self hil], ha, upd_same, hm', hb.mono g, nz, nc, hE⟩
    · obtain ⟨d, x, w, h1, h2, h3, h4, h5, h6, h7, h8⟩ := r.os j hj
      have nx : x ≠ a := by
        rintro rfl
        exact r.ds i j _ ne hi hj ha h2
      exact ⟨d, x, w, by rw [List.getElem?_set_ne ne]; exact h1, h2, by rw [upd_ne nx]; exact h3, h4, h5.mono g, h6, h7, h8⟩
/-- a method of a slot's own list -/
def tM (G : Gc) (W : WX) (pv : Bool) (i : Nat) (f : Dl → Store → Ress) (g : MutF) (okm : List Md → Prop) : TE := fun σ H Q => ∃ E m δ S Z c xs, Rst G.gv pv E m δ S Z c σ H ∧ okm m ∧ m[i]? = some .o ∧ δ[i]? = some (some (.lst xs)) ∧ match f δ S with
  | .st => False
  | .ex j ds S' => ∀ H' Z' c' cls dd, Adv pv H Z c H' Z' c' → StoreOk G.gv H' Z' c' S' → ExcAt G H' Z' c' j ds cls dd → W cls dd σ H'
  | .ok ds S' => ∃ e d', g S' (.lst xs) ds = some (e, d') ∧ ∀ v H' Z' c', Rst G.gv pv E m (δ.set i (some d')) S' Z' c' σ H' → Rep G.gv H' Z' c' v e → Q v H'
theorem own_tM {K : PySem.W.Frag} {i : Nat} {f : Dl → Store → Ress} {g : MutF} {r : V → List V → Hp → VK → Prop} {okm : List Md → Prop} (hr : OpM G r g) {σ : L2.St} {H : Hp} {Q : VK} (q : tM G W pv i f g okm σ H Q) :
    tBM K "list" r (tVar i) (tAs G W pv f true okm) σ H Q := by
  obtain ⟨E, m, δ, S, Z, c, xs, R, ok, hi, hx, q⟩ := q
  obtain ⟨d0, a, o, h1, h2, h3, h4, h5, h6, h7, h8⟩ := R.os i hi
  rw [hx] at h1; cases h1
  obtain ⟨us, rfl, ru⟩ := bd_lst h5
  refine ⟨.ref a, h2, .inl ⟨rfl, us, .inl (.inl h3)⟩, E, m, δ, S, Z, c, R, ok, ?_⟩
  cases hf : f δ S with
  | st => rw [hf] at q; exact q
  | ex j ds S' => rw [hf] at q; exact q
  | ok ds S' =>
    rw [hf] at q
    obtain ⟨e, d', hg, q⟩ := q
    intro vs H' Z' c' a' s' _ rs
    have R1 := R.step a' s'
    obtain ⟨d1, b, o1, w1, w2, w3, w4, w5, w6, w7, w8⟩ := R1.os i hi
    rw [hx] at w1; cases w1
    rw [h2] at w2; cases w2
    refine hr H' Z' c' S' a o1 _ ds vs e d' Q s' w3 w4 w5 (rs rfl) hg fun v o' m' b' rv => ?_
    have g : Grow H' Z' c' (upd H' a o') Z' c' := Grow.upd (gv := G.gv) w3 w4 w6
    exact q v _ Z' c' (R1.mut hi h2 w3 w4 w6 w7 w8 m' b') (rv.mono g)
theorem own_tM0 {K : PySem.W.Frag} {i : Nat} {g : MutF} {r : V → List V → Hp → VK → Prop} {okm : List Md → Prop} (hr : OpM G r g) {σ : L2.St} {H : Hp} {Q : VK} (q : tM G W pv i fNil g okm σ H Q) :
    tBM0 K "list" r (tVar i) σ H Q := by
  obtain ⟨v, h1, h2, E, m, δ, S, Z, c, R, ok, h3⟩ := own_tM (K := K) hr q
  exact ⟨v, h1, h2, h3 [] H Z c Adv.refl R.st .nil fun _ => .nil⟩
/-- the statement-level meaning -/
def sM (i : Nat) (f : Dl → Store → Ress) (g : MutF) (k : D → Dl → Store → SRes) : Dl → Store → SRes := fun δ S => match δ[i]? with
  | some (some (.lst xs)) => (match f δ S with
    | .st => .st
    | .ex j ds S' => .ex j ds S'
    | .ok ds S' => match g S' (.lst xs) ds with
      | some (e, d') => k e (δ.set i (some d')) S'
      | none => .st)
  | _ => .st
theorem m_of {i : Nat} {f : Dl → Store → Ress} {g : MutF} {k : D → Dl → Store → SRes} {okm : List Md → Prop} (hi : m[i]? = some .o) (hok : okm m) {D : Ends} {σ : L2.St} {H : Hp} {Q : VK} (q : tS G W pv rk (sM i f g k) m m' D σ H)
    (hQ : ∀ E δ S Z c v e H1, Rst G.gv pv E m δ S Z c σ H1 → Rep G.gv H1 Z c v e → postS G W pv rk m' E D (k e δ S) → Q v H1) : tM G W pv i f g okm σ H Q := by
  obtain ⟨E, δ, S, Z, c, R, q⟩ := q
  unfold sM at q
  split at q
  · rename_i xs hx
    refine ⟨E, m, δ, S, Z, c, xs, R, hok, hi, hx, ?_⟩
    cases hf : f δ S with
    | st => rw [hf] at q; exact q
    | ex j ds S' => rw [hf] at q; exact fun H' Z' c' cls dd a s x => q σ H' Z' c' cls dd (R.adv.trans a) s x
    | ok ds S' =>
      rw [hf] at q
      dsimp only at q
      cases hg : g S' (.lst xs) ds with
      | none => rw [hg] at q; exact q.elim
      | some p =>
        obtain ⟨e, d'⟩ := p
        rw [hg] at q
        exact ⟨e, d', hg, fun v H1 Z1 c1 R1 r1 => hQ E _ S' Z1 c1 v e H1 R1 r1 q⟩
  · exact q.elim
/-- x.m(..) as a statement -/
theorem ps_mD {e : Expr} {te : TE} {i : Nat} {f : Dl → Store → Ress} {g : MutF} {okm : List Md → Prop} {pos : Pos} (hi : m[i]? = some .o) (hok : okm m) (he : PE X e te) (hte : ∀ σ H Q, tM G W pv i f g okm σ H Q → te σ H Q) (hs : swapsWith e none pos.line X.env = pure false) :
    PS X (.Expr e pos) (tS G W pv rk (sM i f g fun _ δ S => .nx δ S) m m) := (ps_expr he hs).impD fun D σ H q => hte _ _ _ (m_of hi hok q fun E δ S Z c v e H1 R r p => p σ H1 Z c R)
/-- y = x.m(..) -/
theorem ps_setMD {e : Expr} {te : TE} {i j : Nat} {x : Str} {f : Dl → Store → Ress} {g : MutF} {okm : List Md → Prop} {pos pos' : Pos} (hN : X.N.Nodup) (h : NameOk X j x) (hj : j < m.length) (hi : m[i]? = some .o) (hok : okm m) (he : PE X e te) (hte : ∀ σ H Q, tM G W pv i f g okm σ H Q → te σ H Q)
    (hs : swapsWith e (some (.Name x pos')) pos.line X.env = pure false) : PS X (.Assign [.Name x pos'] e pos) (tS G W pv rk (sM i f g fun d δ S => .nx (δ.set j (some d)) S) m (m.set j .z)) := (ps_set hN h.n h.l he hs h.f).impD fun D σ H q =>
  hte _ _ _ (m_of hi hok q fun E δ S Z c v e H1 R r p => p _ H1 Z c (R.setZ (by rw [← R.lm]; exact hj) r))
/-- targets = x.m(..) -/
theorem ps_tgtMD {e tg : Expr} {te : TE} {t : Tgt} {i : Nat} {f : Dl → Store → Ress} {g : MutF} {okm : List Md → Prop} {pos : Pos} (hc : X.calm = true) (hN : X.N.Nodup) (h : TgOk X tg t) (hi : m[i]? = some .o) (hok : okm m) (he : PE X e te) (hte : ∀ σ H Q, tM G W pv i f g okm σ H Q → te σ H Q)
    (hs : swapsWithSole [tg] e pos.line X.env = pure false) (hw : swappedStores [tg] e X.env = pure none) :
    PS X (.Assign [tg] e pos) (tS G W pv rk (sM i f g fun d δ S => match bindT t d δ with
      | some δ' => .nx δ' S
      | none => .st) m (mdT t m)) := (ps_asg he (pg_tgD (G := G) (pv := pv) hc hN h) hs hw (by cases h <;> rfl)).impD fun D σ H q =>
  hte _ _ _ (m_of hi hok q fun E δ S Z c v e H1 R r p => by
    cases hb : bindT t e δ with
    | none => rw [hb] at p; exact p.elim
    | some δ' =>
      rw [hb] at p
      exact ⟨E, m, δ, S, Z, c, e, δ', R, r, hb, fun σ' R' _ => p σ' H1 Z c R'⟩)
/-- x.m(y.m'(..)) -/
theorem ps_mmD {e : Expr} {te : TE} {i j : Nat} {f : Dl → Store → Ress} {g g' : MutF} {r : V → List V → Hp → VK → Prop} {okm : List Md → Prop} {pos : Pos} (hij : i ≠ j) (hr : OpM G r g) (hi : m[i]? = some .o) (hj : m[j]? = some .o) (hok : okm m) {tj : TE} (he : PE X e (tBM X.K "list" r (tVar i) (tCons tj tNil))) (hte : ∀ σ H Q, tM G W pv j f g' okm σ H Q → tj σ H Q)
    (hs : swapsWith e none pos.line X.env = pure false) : PS X (.Expr e pos) (tS G W pv rk (fun δ S => match δ[i]? with
      | some (some (.lst _)) => sM j f g' (fun d δ S => match δ[i]? with
        | some (some (.lst xs)) => (match g S (.lst xs) [d] with
          | some (_, d') => .nx (δ.set i (some d')) S
          | none => .st)
        | _ => .st) δ S
      | _ => .st) m m) := (ps_expr he hs).impD fun D σ H q => by
  obtain ⟨E, δ, S, Z, c, R, q⟩ := q
  dsimp only at q
  split at q
  · rename_i xs hx
    obtain ⟨d0, a, o, h1, h2, h3, h4, h5, h6, h7, h8⟩ := R.os i hi
    rw [hx] at h1; cases h1
    obtain ⟨us, rfl, ru⟩ := bd_lst h5
    refine ⟨.ref a, h2, .inl ⟨rfl, us, .inl (.inl h3)⟩, hte _ _ _ (m_of hj hok (m' := m) ⟨E, δ, S, Z, c, R, q⟩ fun E1 δ1 S1 Z1 c1 v e H1 R1 r1 p => ?_)⟩
    split at p
    · rename_i ys hy
      cases hg : g S1 (.lst ys) [e] with
      | none => rw [hg] at p; exact p.elim
      | some pr =>
        obtain ⟨e2, d'⟩ := pr
        rw [hg] at p
        obtain ⟨d1, b, o1, w1, w2, w3, w4, w5, w6, w7, w8⟩ := R1.os i hi
        rw [hy] at w1; cases w1
        rw [h2] at w2; cases w2
        exact hr H1 Z1 c1 S1 a o1 _ [e] [v] e2 d' _ R1.st w3 w4 w5 (.cons r1 .nil) hg fun v2 o' m' b' rv => p σ _ Z1 c1 (R1.mut hi h2 w3 w4 w6 w7 w8 m' b')
    · exact p.elim
  · exact q.elim
/-- x[e] = e' -/
def sSet (i : Nat) (fi fv : Dl → Store → Res) : Dl → Store → SRes := fun δ S => bindS (fv δ S) fun v S1 => bindS (fi δ S1) fun k S2 => match δ[i]? with
  | some (some d) => (match mSet S2 d k v with
    | some d' => .nx (δ.set i (some d')) S2
    | none => .st)
  | _ => .st
theorem ps_setixD {o ie e : Expr} {i : Nat} {fi fv : Dl → Store → Res} {ki kv : Kd} {oki okv : List Md → Prop} {pos pos' : Pos} (hu : X.A.units + 1 < cLine) (hi : m[i]? = some .o) (hoki : oki m) (hokv : okv m) (hkv : kv ≠ .b) (ho : PE X o (tVar i)) (hie : PE X ie (tE G W pv fi ki oki)) (he : PE X e (tE G W pv fv kv okv))
    (hs : swapsWithSole [Expr.Subscript o ie pos'] e pos.line X.env = pure false) (hw : swappedStores [Expr.Subscript o ie pos'] e X.env = pure none) (hn : ∀ v, assign (.Subscript o ie pos') X.env v = (do
      let ov ← holding [v] (eval o X.env)
      let iv ← holding [v, ov] (eval ie X.env)
      standAt pos'
      holding [v, ov, iv] (setItem ov iv v)
      release [v, ov, iv] []) ) (hn2 : (assignEach [Expr.Subscript o ie pos'] X.env).map (·.2) = [assign (.Subscript o ie pos') X.env]) :
    PS X (.Assign [.Subscript o ie pos'] e pos) (tS G W pv rk (sSet i fi fv) m m) := (ps_asg he (pg_sub ho hie (set_any hu) hn) hs hw hn2).impD fun D σ H q => by
  obtain ⟨E, δ, S, Z, c, R, q⟩ := q
  unfold sSet bindS at q
  refine ⟨E, m, δ, S, Z, c, R, hokv, ?_⟩
  cases hf : fv δ S with
  | st => rw [hf] at q; exact q
  | ex j ds S' => rw [hf] at q; exact fun H' Z' c' cls dd a s x => q σ H' Z' c' cls dd (R.adv.trans a) s x
  | ok v S1 =>
    rw [hf] at q
    dsimp only at q
    intro vv H1 Z0 c1 a0 s0 rk0
    obtain ⟨Z1, a1, s1, rv, _⟩ := rk0.frz hkv a0 s0
    have R1 := R.step a1 s1
    obtain ⟨d0, a, o, h1, h2, h3, h4, h5, h6, h7, h8⟩ := R1.os i hi
    refine ⟨.ref a, h2, E, m, δ, S1, Z1, c1, R1, hoki, ?_⟩
    cases hg : fi δ S1 with
    | st => rw [hg] at q; exact q
    | ex j ds S' => rw [hg] at q; exact fun H' Z' c' cls dd a s x => q σ H' Z' c' cls dd ((R.adv.trans a1).trans a) s x
    | ok k S2 =>
      rw [hg] at q
      dsimp only at q
      intro iv H2 Z2 c2 a2 s2 rki
      rw [h1] at q
      dsimp only at q
      have R2 := R1.step a2 s2
      obtain ⟨d1, b, o1, w1, w2, w3, w4, w5, w6, w7, w8⟩ := R2.os i hi
      rw [h1] at w1; cases w1
      rw [h2] at w2; cases w2
      cases hm : mSet S2 d0 k v with
      | none => rw [hm] at q; exact q.elim
      | some d' =>
        rw [hm] at q
        exact mset_ok s2 w3 w4 w5 rki.vw.vr (Rep.mono (a2.grow s1) rv) hm fun o' m' b' => q σ _ Z2 c2 (R2.mut hi h2 w3 w4 w6 w7 w8 m' b')

/-! ### cells -/
def cellOf : D → Option Cell
  | .lst xs => some (.lst xs)
  | .dct t ks vs => some (.dct t ks vs)
  | _ => none
theorem cellOf_d {d : D} {s : Cell} (h : cellOf d = some s) : s.d = d := by
  cases d <;> first | (cases h; rfl) | cases h
theorem StoreOk.cset {gv : Gv} {H : Hp} {Z : Addr → Prop} {c : List Addr} {S : Store} {n : Nat} {a : Addr} {o' : HO} {s' : Cell} (hlk : ∀ a, ¬ gv.lk a) (s : StoreOk gv H Z c S) (hn : c[n]? = some a) (hm : isMut o') (hb : Bd gv H Z c o' s'.d) : StoreOk gv (L2.upd H a o') Z c (S.set n s') ∧ Adv false H Z c (L2.upd H a o') Z c := by
  obtain ⟨s0, o0, w1, w2, w3, w4, w5⟩ := s.ok n a hn
  have w2 := w2.un hlk
  have g : Grow H Z c (L2.upd H a o') Z c := Grow.upd (gv := gv) w2 w3 w5
  have hlt : n < S.length := (List.getElem?_eq_some_iff.mp w1).1
  refine ⟨⟨by rw [List.length_set]; exact s.len, s.nd, fun k x e => ?_, fun x z => ?_, tabs_mut s.tb w2 w3 (mut_nt hm)⟩, ⟨fun x w h hx _ => ?_, fun _ h => h, fun _ h => .inl h, ⟨[], by simp, by simp⟩, fun x w h => ?_⟩⟩
  · by_cases ne : n = k
    · subst ne
      rw [hn] at e; cases e
      exact ⟨s', o', by rw [List.getElem?_set_self hlt], .inl upd_same, hm, hb.mono g, w5⟩
    · obtain ⟨sc, w, h1, h2, h3, h4, h5⟩ := s.ok k x e
      have nx : x ≠ a := by
        rintro rfl
        obtain ⟨l1, e1⟩ := List.getElem?_eq_some_iff.mp hn
        obtain ⟨l2, e2⟩ := List.getElem?_eq_some_iff.mp e
        exact ne ((List.getElem_inj s.nd).mp (e1.trans e2.symm))
      exact ⟨sc, w, by rw [List.getElem?_set_ne ne]; exact h1, h2.keep fun y e => by rw [upd_ne nx]; exact e, h3, h4.mono g, h5⟩
  · have nx : x ≠ a := fun e => w5 (e ▸ z)
    obtain ⟨w, h⟩ := s.zt x z
    exact ⟨w, by rw [upd_ne nx]; exact h⟩
  · have nx : x ≠ a := by
      rintro rfl
      rcases hx with hx | hx
      · cases hx
      · exact hx (List.mem_of_getElem? hn)
    rw [upd_ne nx]; exact h
  · by_cases e : x = a
    · exact ⟨o', by rw [e, upd_same]⟩
    · exact ⟨w, by rw [upd_ne e]; exact h⟩
/-- a method of a cell's thing -/
def fCm (fo : Dl → Store → Res) (f : Dl → Store → Ress) (g : MutF) : Dl → Store → Res := fun δ S => bindR (fo δ S) fun d S1 => match d with
  | .cell n => (match S1[n]? with
    | some (.lst _) => (match f δ S1 with
      | .st => .st
      | .ex j ds S' => .ex j ds S'
      | .ok ds S2 => match S2[n]? with
        | some s => (match g S2 s.d ds with
          | some (e, d') => (match cellOf d' with
            | some s' => .ok e (S2.set n s')
            | none => .st)
          | none => .st)
        | none => .st)
    | _ => .st)
  | _ => .st
theorem cell_tM {K : PySem.W.Frag} {fo : Dl → Store → Res} {f : Dl → Store → Ress} {g : MutF} {r : V → List V → Hp → VK → Prop} {k : Kd} {oko okm : List Md → Prop} (hpv : pv = false) (hlk : ∀ a, ¬ G.gv.lk a) (hr : OpM G r g) {σ : L2.St} {H : Hp} {Q : VK} (q : tE G W pv (fCm fo f g) .z (fun m => oko m ∧ okm m) σ H Q) :
    tBM K "list" r (tE G W pv fo k oko) (tAs G W pv f true okm) σ H Q := by
  obtain ⟨E, m, δ, S, Z, c, R, ⟨ok1, ok2⟩, q⟩ := q
  refine ⟨E, m, δ, S, Z, c, R, ok1, ?_⟩
  unfold fCm bindR at q
  cases hf : fo δ S with
  | st => rw [hf] at q; exact q
  | ex j ds S' => rw [hf] at q; exact q
  | ok d S1 =>
    rw [hf] at q
    intro v H1 Z1 c1 a1 s1 rk1
    cases d with
    | cell n =>
      dsimp only at q
      have hv : ∃ a, v = .ref a ∧ c1[n]? = some a := by
        cases rk1.vw with
        | rep r => cases r with
          | cell h => exact ⟨_, rfl, h⟩
          | obj _ _ b => cases b
        | top _ _ b _ => cases b
      obtain ⟨a, rfl, hn⟩ := hv
      obtain ⟨sc, o, w1, w2, w3, w4, w5⟩ := s1.ok n a hn
      have w2 := w2.un hlk
      rw [w1] at q
      cases sc with
      | dct t ks vs => exact q.elim
      | lst xs =>
        dsimp only at q
        obtain ⟨us, rfl, ru⟩ := bd_lst w4
        refine ⟨.inl ⟨rfl, us, .inl (.inl w2)⟩, E, m, δ, S1, Z1, c1, R.step a1 s1, ok2, ?_⟩
        cases hg : f δ S1 with
        | st => rw [hg] at q; exact q
        | ex j ds S' => rw [hg] at q; exact fun H' Z' c' cls dd a' s' x => q H' Z' c' cls dd (a1.trans a') s' x
        | ok ds S2 =>
          rw [hg] at q
          dsimp only at q
          intro vs H2 Z2 c2 a2 s2 _ rs
          have hn2 : c2[n]? = some a := (a2.grow s1).cc n a hn
          obtain ⟨sc2, o2, y1, y2, y3, y4, y5⟩ := s2.ok n a hn2
          have y2 := y2.un hlk
          rw [y1] at q
          dsimp only at q
          cases hm : g S2 sc2.d ds with
          | none => rw [hm] at q; exact q.elim
          | some p =>
            obtain ⟨e, d'⟩ := p
            rw [hm] at q
            dsimp only at q
            cases hc : cellOf d' with
            | none => rw [hc] at q; exact q.elim
            | some s' =>
              rw [hc] at q
              dsimp only at q
              refine hr H2 Z2 c2 S2 a o2 sc2.d ds vs e d' Q s2 y2 y3 y4 (rs rfl) hm fun v2 o' m' b' rv => ?_
              have hd := cellOf_d hc
              obtain ⟨s3, a3⟩ := s2.cset hlk hn2 m' (by rw [hd]; exact b')
              subst hpv
              exact q v2 _ Z2 c2 ((a1.trans a2).trans a3) s3 (rv.mono (a3.grow s2))
    | _ => exact q.elim
theorem cell_tM0 {K : PySem.W.Frag} {fo : Dl → Store → Res} {g : MutF} {r : V → List V → Hp → VK → Prop} {k : Kd} {oko : List Md → Prop} (hpv : pv = false) (hlk : ∀ a, ¬ G.gv.lk a) (hr : OpM G r g) {σ : L2.St} {H : Hp} {Q : VK} (q : tE G W pv (fCm fo fNil g) .z oko σ H Q) :
    tBM0 K "list" r (tE G W pv fo k oko) σ H Q := by
  have q' : tE G W pv (fCm fo fNil g) .z (fun m => oko m ∧ True) σ H Q := by
    obtain ⟨E, m, δ, S, Z, c, R, ok, q⟩ := q
    exact ⟨E, m, δ, S, Z, c, R, ⟨ok, trivial⟩, q⟩
  obtain ⟨E, m, δ, S, Z, c, R, ok, h⟩ := cell_tM (K := K) (k := k) (okm := fun _ => True) hpv hlk hr q'
  refine ⟨E, m, δ, S, Z, c, R, ok, ?_⟩
  cases hf : fo δ S with
  | st => rw [hf] at h; exact h
  | ex j ds S' => rw [hf] at h; exact h
  | ok d S1 =>
    rw [hf] at h
    intro v H1 Z1 c1 a1 s1 rk1
    obtain ⟨h1, E2, m2, δ2, S2, Z2, c2, R2, _, h2⟩ := h v H1 Z1 c1 a1 s1 rk1
    exact ⟨h1, h2 [] H1 Z2 c2 Adv.refl R2.st .nil fun _ => .nil⟩
/-- ce[e] = e', ce a cell -/
def sCset (fo fi fv : Dl → Store → Res) : Dl → Store → SRes := fun δ S => bindS (fv δ S) fun v S1 => bindS (fo δ S1) fun d S2 => bindS (fi δ S2) fun k S3 => match d with
  | .cell n => (match S3[n]? with
    | some s => (match mSet S3 s.d k v with
      | some d' => (match cellOf d' with
        | some s' => .nx δ (S3.set n s')
        | none => .st)
      | none => .st)
    | none => .st)
  | _ => .st
theorem ps_csetD {o ie e : Expr} {fo fi fv : Dl → Store → Res} {ko ki kv : Kd} {oko oki okv : List Md → Prop} {pos pos' : Pos} (hpv : pv = false) (hlk : ∀ a, ¬ G.gv.lk a) (hu : X.A.units + 1 < cLine) (hoko : oko m) (hoki : oki m) (hokv : okv m) (hkv : kv ≠ .b) (ho : PE X o (tE G W pv fo ko oko)) (hie : PE X ie (tE G W pv fi ki oki)) (he : PE X e (tE G W pv fv kv okv))
    (hs : swapsWithSole [Expr.Subscript o ie pos'] e pos.line X.env = pure false) (hw : swappedStores [Expr.Subscript o ie pos'] e X.env = pure none) (hn : ∀ v, assign (.Subscript o ie pos') X.env v = (do
      let ov ← holding [v] (eval o X.env)
      let iv ← holding [v, ov] (eval ie X.env)
      standAt pos'
      holding [v, ov, iv] (setItem ov iv v)
      release [v, ov, iv] []) ) (hn2 : (assignEach [Expr.Subscript o ie pos'] X.env).map (·.2) = [assign (.Subscript o ie pos') X.env]) :
    PS X (.Assign [.Subscript o ie pos'] e pos) (tS G W pv rk (sCset fo fi fv) m m) := (ps_asg he (pg_sub ho hie (set_any hu) hn) hs hw hn2).impD fun D σ H q => by
  obtain ⟨E, δ, S, Z, c, R, q⟩ := q
  unfold sCset bindS at q
  refine ⟨E, m, δ, S, Z, c, R, hokv, ?_⟩
  cases hf : fv δ S with
  | st => rw [hf] at q; exact q
  | ex j ds S' => rw [hf] at q; exact fun H' Z' c' cls dd a s x => q σ H' Z' c' cls dd (R.adv.trans a) s x
  | ok v S1 =>
    rw [hf] at q
    dsimp only at q
    intro vv H1 Z0 c1 a0 s0 rk0
    obtain ⟨Z1, a1, s1, rv, _⟩ := rk0.frz hkv a0 s0
    have R1 := R.step a1 s1
    refine ⟨E, m, δ, S1, Z1, c1, R1, hoko, ?_⟩
    cases hfo : fo δ S1 with
    | st => rw [hfo] at q; exact q
    | ex j ds S' => rw [hfo] at q; exact fun H' Z' c' cls dd a s x => q σ H' Z' c' cls dd (R1.adv.trans a) s x
    | ok d S2 =>
      rw [hfo] at q
      dsimp only at q
      intro ov H2 Z2 c2 a2 s2 rk2
      have R2 := R1.step a2 s2
      refine ⟨E, m, δ, S2, Z2, c2, R2, hoki, ?_⟩
      cases hg : fi δ S2 with
      | st => rw [hg] at q; exact q
      | ex j ds S' => rw [hg] at q; exact fun H' Z' c' cls dd a s x => q σ H' Z' c' cls dd (R2.adv.trans a) s x
      | ok k S3 =>
        rw [hg] at q
        intro iv H3 Z3 c3 a3 s3 rki
        have R3 := R2.step a3 s3
        cases d with
        | cell n =>
          dsimp only at q
          have hv : ∃ a, ov = .ref a ∧ c2[n]? = some a := by
            cases rk2.vw with
            | rep r => cases r with
              | cell h => exact ⟨_, rfl, h⟩
              | obj _ _ b => cases b
            | top _ _ b _ => cases b
          obtain ⟨a, rfl, hn⟩ := hv
          have hn3 : c3[n]? = some a := (a3.grow s2).cc n a hn
          obtain ⟨sc, o, w1, w2, w3, w4, w5⟩ := s3.ok n a hn3
          have w2 := w2.un hlk
          rw [w1] at q
          dsimp only at q
          cases hm : mSet S3 sc.d k v with
          | none => rw [hm] at q; exact q.elim
          | some d' =>
            rw [hm] at q
            dsimp only at q
            cases hc : cellOf d' with
            | none => rw [hc] at q; exact q.elim
            | some s' =>
              rw [hc] at q
              have hd := cellOf_d hc
              refine mset_ok s3 w2 w3 w4 rki.vw.vr (Rep.mono (a3.grow s2) (Rep.mono (a2.grow s1) rv)) hm fun o' m' b' => ?_
              obtain ⟨s4, a4⟩ := s3.cset hlk hn3 m' (by rw [hd]; exact b')
              subst hpv
              exact q σ _ Z3 c3 (R3.step a4 s4)
        | _ => exact q.elim
/-- a new list becomes a cell -/
def fCell (f : Dl → Store → Res) : Dl → Store → Res := fun δ S => bindR (f δ S) fun d S1 => match cellOf d with
  | some s => .ok (.cell S1.length) (S1 ++ [s])
  | none => .st
theorem pe_cellD {e : Expr} {f : Dl → Store → Res} {okm : List Md → Prop} (h : PE X e (tE G W pv f .o okm)) : PE X e (tE G W pv (fCell f) .z okm) := h.impD fun σ H Q q => by
  obtain ⟨E, m, δ, S, Z, c, R, ok, q⟩ := q
  refine ⟨E, m, δ, S, Z, c, R, ok, ?_⟩
  unfold fCell bindR at q
  cases hf : f δ S with
  | st => rw [hf] at q; exact q
  | ex j ds S' => rw [hf] at q; exact q
  | ok d S1 =>
    rw [hf] at q
    intro v H1 Z1 c1 a1 s1 rk1
    dsimp only at q
    cases hc : cellOf d with
    | none => rw [hc] at q; exact q.elim
    | some s =>
      rw [hc] at q
      dsimp only at q
      have hd := cellOf_d hc
      subst hd
      obtain ⟨p, o, rfl, h1, h2, h3, h4, h5, h6⟩ := rk1
      have g : Grow H1 Z1 c1 H1 Z1 (c1 ++ [p]) := ⟨fun _ _ h _ _ => h, fun _ _ _ h _ => h, fun _ _ h _ => h, fun _ h => h, fun n a h => by rw [List.getElem?_append_left (List.getElem?_eq_some_iff.mp h).1]; exact h⟩
      have s2 : StoreOk G.gv H1 Z1 (c1 ++ [p]) (S1 ++ [s]) := by
        refine ⟨by rw [List.length_append, List.length_append, s1.len]; rfl, ?_, fun n a e => ?_, s1.zt, s1.tb⟩
        · rw [List.nodup_append]
          exact ⟨s1.nd, by simp, fun x hx y hy e => by rw [List.mem_singleton] at hy; subst hy; subst e; exact h5 hx⟩
        · by_cases hn : n < c1.length
          · rw [List.getElem?_append_left hn] at e
            obtain ⟨sc, w, w1, w2, w3, w4, w5⟩ := s1.ok n a e
            exact ⟨sc, w, by rw [List.getElem?_append_left (by rw [← s1.len]; exact hn)]; exact w1, w2, w3, w4.mono g, w5⟩
          · rw [List.getElem?_append_right (by omega)] at e
            have hn' : n - c1.length = 0 := by
              have := (List.getElem?_eq_some_iff.mp e).1
              simp at this
              omega
            rw [hn'] at e
            cases e
            exact ⟨s, o, by rw [List.getElem?_append_right (by rw [← s1.len]; omega), ← s1.len, hn']; rfl, .inl h1, h2, h3.mono g, h4⟩
      obtain ⟨n, en, hn⟩ := a1.cn
      have a2 : Adv pv H Z c H1 Z1 (c1 ++ [p]) := ⟨a1.keep, a1.zz, a1.zn, ⟨n ++ [p], by rw [en, List.append_assoc], fun x hx => by
        rcases List.mem_append.mp hx with z | z
        · exact hn x z
        · rw [List.mem_singleton] at z; subst z; exact h6⟩, a1.tr⟩
      refine q (.ref p) H1 Z1 (c1 ++ [p]) a2 s2 (.cell ?_)
      rw [← s1.len, List.getElem?_append_right (Nat.le_refl _), Nat.sub_self]
      rfl
end
end VI
end

section
set_option Elab.async false
set_option linter.all false
set_option autoImplicit false
set_option maxRecDepth 100000
/-! VI, 11: defs and their calls -/
namespace VI
open PySem PySem.Spec L2
open PyProof.Rows (envOfC)

/-- a def's meaning by its body's -/
def runD (l : Nat) (rk : Kd) (f : Dl → Store → SRes) : List D → Store → Res := fun ds S => match f (ds.map some ++ List.replicate (l - ds.length) none) S with
  | .nx _ S' => (match rk with
    | .z => .ok .non S'
    | _ => .st)
  | .ret d S' => .ok d S'
  | .ex j ds' S' => .ex j ds' S'
  | .st => .st
/-- the modes at the entry -/
def md0 (l n : Nat) : List Md := List.replicate n .z ++ List.replicate (l - n) .x
theorem rst0 {gv : Gv} {pu : Bool} {H : Hp} {Z : Addr → Prop} {c : List Addr} {S : Store} {N : List Str} {vs : List V} {ds : List D} (s : StoreOk gv H Z c S) (r : Reps gv H Z c vs ds) (hl : vs.length ≤ N.length) :
    Rst gv pu ⟨H, Z, c, fun _ _ _ => True, fun _ _ _ _ _ _ _ h => h⟩ (md0 N.length vs.length) (ds.map some ++ List.replicate (N.length - ds.length) none) S Z c (L2.start N vs) H := by
  have hd := r.length
  refine ⟨s, Adv.refl, trivial, ?_, ?_, fun i d h1 h2 => ?_, fun i h => ?_, fun i j a _ h => ?_⟩
  · simp [md0, L2.start]
  · simp [L2.start, hd]
  · by_cases hi : i < vs.length
    · rw [List.getElem?_append_left (by simpa [← hd] using hi), List.getElem?_map] at h2
      have h3 : ds[i]? = some d := by
        cases e : ds[i]? with
        | none => rw [e] at h2; cases h2
        | some x => rw [e] at h2; cases h2; rfl
      obtain ⟨v, h4, h5⟩ := r.get h3
      exact ⟨v, by unfold L2.start; rw [List.getElem?_append_left (by simpa using hi), List.getElem?_map, h4]; rfl, h5⟩
    · unfold md0 at h1
      rw [List.getElem?_append_right (by simpa using hi), List.getElem?_replicate] at h1
      split at h1 <;> cases h1
  · unfold md0 at h
    by_cases hi : i < vs.length
    · rw [List.getElem?_append_left (by simpa using hi), List.getElem?_replicate] at h
      split at h <;> cases h
    · rw [List.getElem?_append_right (by simpa using hi), List.getElem?_replicate] at h
      split at h <;> cases h
  · unfold md0 at h
    by_cases hi : i < vs.length
    · rw [List.getElem?_append_left (by simpa using hi), List.getElem?_replicate] at h
      split at h <;> cases h
    · rw [List.getElem?_append_right (by simpa using hi), List.getElem?_replicate] at h
      split at h <;> cases h
section
variable {P : Program} {w : World} {K : PySem.W.Frag} {mg : Str → Option Value} {base : Heap} {G : Gc}
/-- a def keeps its promise, its body read -/
theorem okD {x qual : Str} {params : Arguments} {body : List Stmt} {scope : Scope} {f : Addr} {fd : FuncData} {N ps : List Str} {k : Nat} {rk : Kd} {pu : Bool} {fb : Dl → Store → SRes} {m1 : List Md} (F : FunD K x qual params body scope [] [] f fd) (S : FnScope N ps scope)
    (hb : ∀ (lk : Addr → Prop) (cdv : Value) (A : Around) (outer : List Env) (s : Shared) (H : Hp) (E : XK), (pu = true ∨ ∀ a, ¬ lk a) → Room k (A.deeper (envOfC qual scope s.heap.objs.size f cdv)) →
      PSs (cxOf (L2.CX P w) P w K mg base N qual scope f cdv A outer s H E) body (tS (G.L lk) (fun cls d _ H' => E cls d H') pu rk fb (md0 N.length ps.length) m1)) :
    FnOk P w K mg base (L2.CX P w) (k + 1) f fd ps (spD G ps.length rk pu (runD N.length rk fb)) := by
  have hN : ps.length ≤ N.length := by
    have h := congrArg List.length S.pre
    rw [List.length_take] at h
    omega
  refine F.ok S (fun vs H Q E h => h.1) fun cdv A outer s H vs Q E hr h => ?_
  obtain ⟨hl, lk, Z, c, S0, ds, hk, st, rs, q⟩ := h
  refine ⟨_, hb lk cdv A outer s H E hk hr, ⟨H, Z, c, fun _ _ _ => True, fun _ _ _ _ _ _ _ h => h⟩, ds.map some ++ List.replicate (N.length - ds.length) none, S0, Z, c, ?_, ?_⟩
  · have R := rst0 (pu := pu) (N := N) st rs (by rw [hl]; exact hN)
    rw [hl] at R
    exact R
  · unfold runD at q
    cases hf : fb (ds.map some ++ List.replicate (N.length - ds.length) none) S0 with
    | st => rw [hf] at q; exact q.elim
    | ex j ds' S' => rw [hf] at q; exact fun σ' H' Z' c' cls dd a s' x => q H' Z' c' cls dd a s' x
    | ret d S' => rw [hf] at q; exact fun v H' Z' c' a s' x => q v H' Z' c' a s' x
    | nx δ' S' =>
      rw [hf] at q
      cases rk with
      | z => exact fun σ' H' Z' c' R => q .non H' Z' c' R.adv R.st .non
      | o => exact q.elim
      | b => exact q.elim
theorem takesD {N : List Str} {qual : Str} {scope : Scope} {f : Addr} {cdv : Value} {A : Around} {outer : List Env} {s : Shared} {H : Hp} {E : XK} : Takes (cxOf (L2.CX P w) P w K mg base N qual scope f cdv A outer s H E) (fun cls d _ H' => E cls d H') := takes_of rfl rfl rfl rfl
theorem ownD {N : List Str} {qual : Str} {scope : Scope} {f : Addr} {cdv : Value} {A : Around} {outer : List Env} {s : Shared} {H : Hp} {E : XK} : PassesOwn (model P w) (cxOf (L2.CX P w) P w K mg base N qual scope f cdv A outer s H E).A (cxOf (L2.CX P w) P w K mg base N qual scope f cdv A outer s H E).env (cxOf (L2.CX P w) P w K mg base N qual scope f cdv A outer s H E).xe := passes_of rfl
end
section
variable {G : Gc} {W : WX} {pv : Bool} {X : Cx} {lk : Addr → Prop}
/-- f(e, ..) -/
theorem pe_callD {n k : Nat} {kd : Kd} {pu : Bool} {f : Addr} {fd : FuncData} {ps : List Str} {x : Str} {p pos : Pos} {e : Expr} {es : List Expr} {g : List D → Store → Res} {fa : Dl → Store → Ress} {okm : List Md → Prop} (F : FnOk X.prog X.w X.K X.mg X.base (L2.CX X.prog X.w) k f fd ps (spD G n kd pu g)) (hr : Room k X.A) (hg : Gl X x) (hm : X.mg x = some (.ref f)) (hk : PySem.W.keepIn X.K (.ref f) = true) (hb : Binds X.K fd ps []) (tk : Takes X W)
    (hp : pv = true → pu = true) (hlk : pu = true ∨ ∀ a, ¬ lk a) (hl : ∀ δ S ds S', fa δ S = .ok ds S' → ds.length = n) (ha : PA X (e :: es) (tAs (G.L lk) W pv fa true okm)) (hdb : (x == ("__debug__" : Str)) = false)
    (he : starEach (e :: es) X.env = (false, eval e X.env) :: starEach es X.env) (hpl : (backTo pos (starEach es X.env)).any (·.1) = false) :
    PE X (.Call (.Name x p) (e :: es) [] pos) (tE (G.L lk) W pv (fCall fa g) kd okm) := (pe_callS F hr hg hm hk hb (fun σ => passAt tk σ) ha hdb he hpl).impD fun σ H Q q => call_tE hp hlk hl q
theorem lenN : ∀ {n : Nat} {f : Dl → Store → Res} {g : Dl → Store → Ress}, (∀ δ S ds S', g δ S = .ok ds S' → ds.length = n) → ∀ δ S ds S', consR f g δ S = .ok ds S' → ds.length = n + 1 := by
  intro n f g h δ S ds S' e
  unfold consR at e
  cases hf : f δ S with
  | st => rw [hf] at e; cases e
  | ex j ds S' => rw [hf] at e; cases e
  | ok d S1 =>
    rw [hf] at e
    dsimp only at e
    cases hg : g δ S1 with
    | st => rw [hg] at e; cases e
    | ex j ds S' => rw [hg] at e; cases e
    | ok es S2 =>
      rw [hg] at e
      cases e
      rw [List.length_cons, h _ _ _ _ hg]
theorem len0 : ∀ δ S ds S', fNil δ S = .ok ds S' → ds.length = 0 := fun δ S ds S' e => by cases e; rfl
end
end VI
end

section
set_option Elab.async false
set_option linter.all false
set_option autoImplicit false
set_option maxRecDepth 100000
set_option maxHeartbeats 2000000
/-! VX, 1: an own exception class called with keywords -/
namespace VX
open PySem PySem.Spec PySem.HandSPX Builtin Builtin.ObjectAttr
section
variable {M : Model} {A : Around} {E : Value → Shared → Prop} {h : Heap} {g : Array GenState} {d : Drawn} {t : Nat} {os : OsState}
variable {nm q : Str} {C N : Addr} {bs bm bmB : List Value} {hdct : Bool} {sn : List Str} {sub : List Value} {ab : Bool} {col : Option Bool} {dd : Option Addr} {k0 k1 k2 k3 k5 : Option Value} {B newId initId : String}
theorem newChk (F : ExcBaseFacts B newId initId bmB) (hT : ∀ X : String, bm.contains (.type X) = bmB.contains (.type X)) {us : List Value} {kw : List (Str × Value)} {Q : Unit → Shared → Prop}
    (hC : h.get? C = some (excClassObj nm q C N bs bm hdct sn sub ab col dd k0 k1 k2 k3 k5 newId)) (hq : Q () ⟨h, g, d, t, os⟩) :
    wpAny M A (checkBuiltinCall newId ⟨.ref C :: us, kw⟩) Q E ⟨h, g, d, t, os⟩ := by
  have c1 : (Value.ref C :: bm).contains (.type B) = true := by
    rw [List.contains_cons, hT, F.hasB]
    exact Bool.or_true _
  have c2 := F.noStar
  simp only [checkBuiltinCall, F.newKind, F.newSplit, F.newRow]
  repeat (first
    | refine wpAny_loadPart_at hC ?_
    | (refine wpAny_isSubtype_exc hC ?_; rw [c1])
    | refine wpAny_staticBase_exc hC ?_
    | refine wpAny_madeBy_exc hC ?_
    | simp only [bne_self_eq_false, Bool.false_eq_true, if_false]
    | wp_step)
  exact hq
end
section
variable {prog : Program} {w : World} {A : Around} {E : Value → Shared → Prop} {R : Result → Shared → Prop} {h : Heap} {g : Array GenState} {d : Drawn} {t : Nat} {os : OsState}
variable {nm q : Str} {C N : Addr} {bs bm bmB : List Value} {hdct : Bool} {sn : List Str} {sub : List Value} {ab : Bool} {col : Option Bool} {dd : Option Addr} {k0 k1 k2 k3 k5 : Option Value} {B newId initId : String}
theorem newRun (F : ExcBaseFacts B newId initId bmB) (hT : ∀ X : String, bm.contains (.type X) = bmB.contains (.type X)) {us : List Value} {kw : List (Str × Value)}
    (hC : h.get? C = some (excClassObj nm q C N bs bm hdct sn sub ab col dd k0 k1 k2 k3 k5 newId)) (hl : us.length ≤ sizeLine)
    (hq : R (.ok (.ret (.ref (h.objs.size + 1)))) ⟨(h.push (W.kdv_tup us)).push (excO C h.objs.size), g, d, t, os⟩) :
    codeAny (model prog w) A (.builtin newId ⟨.ref C :: us, kw⟩) R ⟨h, g, d, t, os⟩ := by
  have e0 := F.ends
  have e1 : (Value.ref C :: bm).contains (.type B) = true := by
    rw [List.contains_cons, hT, F.hasB]
    exact Bool.or_true _
  have e2 : (Value.ref C :: bm).contains (.type "AttributeError") = false := by
    rw [List.contains_cons, hT, F.noAttr]
    rfl
  have e3 : (Value.ref C :: bm).contains (.type "NameError") = false := by
    rw [List.contains_cons, hT, F.noName]
    rfl
  refine codeAny_builtinAt F.entry ?_
  unfold Builtin.«BaseException.__new__»
  refine wpAt_bind ?_
  show wpAt _ _ _ (stack >>= _) _ _ _
  refine wpAt_bind (wpAt_stack fun p below => wpAt_of_wpAny ?_)
  wp_walk
  refine wpAt_of_wpAny ?_
  rw [F.owner]
  repeat (first
    | with_reducible refine wpAny_madeHere_exc F.canon hC ?_
    | with_reducible refine wpAny_loadPart_at hC ?_
    | (with_reducible refine wpAny_isSubtype_exc hC ?_; first | rw [e1] | rw [e2] | rw [e3])
    | wp_step)
  show R _ _
  rw [Heap.size_push]
  exact hq
theorem typeRun (F : ExcBaseFacts B newId initId bmB) (hT : ∀ X : String, bm.contains (.type X) = bmB.contains (.type X)) {us : List Value} {kw : List (Str × Value)} {fI : Addr} {Q : Fin → Shared → Prop}
    (hC : h.get? C = some (excClassObj nm q C N bs bm hdct sn sub ab col dd k0 k1 k2 k3 k5 newId))
    (hi : W.Looks (model prog w) h (typeLookup (.ref C) "__init__") (some (.ref fI))) (hb : ∀ self, W.Looks (model prog w) h (bindSpecial (.ref fI) self) (.ref fI, [self])) (hl : us.length ≤ sizeLine)
    (hq : codeAny (model prog w) A (.call (.ref fI) ⟨.ref (h.objs.size + 1) :: us, kw⟩)
      (fun r s' => match r with | .ok (.ret v) => v = .none ∧ Q (.done (.ret (.ref (h.objs.size + 1)))) s' | .ok _ => False | .error e => E e s')
      ⟨(h.push (W.kdv_tup us)).push (excO C h.objs.size), g, d, t, os⟩) :
    wpAny (model prog w) A (Builtin.«type.__call__» ⟨.ref C :: us, kw⟩) Q E ⟨h, g, d, t, os⟩ := by
  repeat (first
    | with_reducible refine wpAny_loadPart_at hC ?_
    | with_reducible refine wpAny_madeBy_exc hC ?_
    | wp_step)
  refine codeAny_call_builtin_code (Code.quiet_builtin _ F.quiet) (newChk F hT hC ?_)
  refine newRun F hT hC hl ?_
  show wpAny _ _ _ _ _ _
  have kp : ∀ b o, h.get? b = some o → ((h.push (W.kdv_tup us)).push (excO C h.objs.size)).get? b = some o := fun b o e => Heap.get?_push_of_some _ (Heap.get?_push_of_some _ e)
  have c1 := kp _ _ hC
  have c2 : ((h.push (W.kdv_tup us)).push (excO C h.objs.size)).get? (h.objs.size + 1) = some (excO C h.objs.size) := by heap_get
  have c3 : (Value.ref C :: bm).contains (.ref C) = true := by simp
  have i1 := hi.keeps kp
  have b1 := (hb (.ref (h.objs.size + 1))).keeps kp
  unfold isInstance
  repeat (first
    | with_reducible refine wpAny_loadPart_at c2 ?_
    | (with_reducible refine wpAny_isSubtype_exc c1 ?_; rw [c3])
    | wp_step)
  show wpAny _ _ (typeLookup (.ref C) _) _ _ _
  refine i1.at ?_
  refine wpAny_holding (wpAny_bind (b1.at ?_))
  refine wpAny_bind (wpAny_call (codeAny_mono hq fun r s' z => ?_))
  rcases r with e | (v | _ | _ | _) <;> first | exact z | exact z.elim | skip
  obtain ⟨rfl, z⟩ := z
  first
    | exact wpAny_pure (wpAny_pure z)
    | (wp_walk; exact z)
theorem callKw (F : ExcBaseFacts B newId initId bmB) (hT : ∀ X : String, bm.contains (.type X) = bmB.contains (.type X)) {us : List Value} {kw : List (Str × Value)} {fI : Addr}
    (hC : h.get? C = some (excClassObj nm q C N bs bm hdct sn sub ab col dd k0 k1 k2 k3 k5 newId))
    (hi : W.Looks (model prog w) h (typeLookup (.ref C) "__init__") (some (.ref fI))) (hb : ∀ self, W.Looks (model prog w) h (bindSpecial (.ref fI) self) (.ref fI, [self])) (hl : us.length ≤ sizeLine)
    (hq : codeAny (model prog w) (A.under (.builtin "type.__call__" ⟨.ref C :: us, kw⟩)) (.call (.ref fI) ⟨.ref (h.objs.size + 1) :: us, kw⟩) (W.InitBack (h.objs.size + 1) R)
      ⟨(h.push (W.kdv_tup us)).push (excO C h.objs.size), g, d, t, os⟩) :
    codeAny (model prog w) A (.call (.ref C) ⟨us, kw⟩) R ⟨h, g, d, t, os⟩ := by
  have f1 := tc_lookup
  have f2 := tc_bind (.ref C)
  have hTy : (⟨h, g, d, t, os⟩ : Shared).TypeIs (.ref C) "type" := ⟨_, hC, rfl⟩
  refine codeAny_of_tree ?_
  show wpAny _ _ (callAny (.ref C) _) _ _ _
  repeat (any_goals (first | assumption | with_reducible refine wpAny_loadPart_at hC ?_ | wp_step))
  refine ⟨rfl, ?_⟩
  refine codeAny_call_builtin_at (Code.quiet_builtin _ (by decide +kernel)) entry_typeCall ?_
  exact wpAny_check_type_call_sub hC (typeRun F hT hC hi hb hl (codeAny_mono hq fun r s' z => by rcases r with e | (v | _ | _ | _) <;> exact z))
end
end VX
namespace VI
open PySem PySem.Spec L2
/-- what __init__ does: self.f = x -/
def spIni (K : PySem.W.Frag) (f : Str) : Sp := fun vs H Q _ => ∃ (a C : Addr) (v : V), vs = [.ref a, v] ∧ OexC K C ∧ PySem.W.findIn K (.ref C) f = some none ∧ H a = some (exo a C none) ∧ ∀ dx, H dx = none → dx ≠ a → Q .non (upd (upd H dx (exd dx [(f, v)])) a (exo a C (some dx)))
def tIni (K : PySem.W.Frag) (f : Str) : TS := tOst K f (tVar 0) (tVar 1)
theorem ini_pure {K : PySem.W.Frag} {f p0 p1 : Str} (vs : List V) (H : Hp) (Q : VK) (E : XK) (h : spIni K f vs H Q E) : tIni K f { nx := fun _ H' => Q .non H', rt := Q } (start [p0, p1] vs) H := by
  obtain ⟨a, C, v, rfl, T, hno, ha, q⟩ := h
  exact ⟨v, rfl, .ref a, rfl, a, C, rfl, T, hno, .inl ⟨ha, fun dx n ne => q dx n ne⟩⟩
theorem exV_ok {P : Program} {w : World} {H : Hp} {h : Heap} {a : Addr} {cls : Value} {d : Option Addr} {oe : Obj} {vs : Array Value} (e : h.get? a = some oe) (z : Zc cls d oe) (hd : oe.data = .fields vs) : ObjOk P w H h a (ExV cls d a) :=
  ⟨⟨oe, vs, e, z, hd⟩, ⟨oe, e⟩, fun _ _ ⟨o, v, q, r⟩ k => ⟨o, v, k o q, r⟩⟩
section
variable {X : Cx} {pins : List (Addr × Obj)} {σ : L2.St} {H : Hp} {s : Shared}
theorem mk_heap {H : Hp} {a dx C : Addr} {f : Str} {v : V} (ha : H a = none) (ne : dx ≠ a) : upd (del (upd (upd (upd H a (exo a C none)) dx (exd dx [(f, v)])) a (exo a C (some dx))) a) dx (.xd [(f, v)]) = upd H dx (.xd [(f, v)]) := by
  funext b
  by_cases hb : b = dx
  · subst hb; rw [upd_same, upd_same]
  · rw [upd_ne hb, upd_ne hb]
    by_cases hc : b = a
    · subst hc; rw [del_same, ha]
    · rw [del_ne hc, upd_ne hc, upd_ne hb, upd_ne hc]
/-- C(v) | C(x = v): a new exception, held -/
theorem mkV {us : List Value} {kw : List (Str × Value)} {u : Value} {v : V} {C fI : Addr} {k : Nat} {fd : FuncData} {p0 p1 f : Str} {Q : VK} {CX : CXT} (T : OexC X.K C) (iC : PySem.W.findIn X.K (.ref C) "__init__" = some (some (.ref fI))) (tI : PySem.W.typeIn X.K (.ref fI) = some (.type "function"))
    (F1 : FnOk X.prog X.w X.K X.mg X.base CX k fI fd [p0, p1] (spIni X.K f)) (hr : Room (k + 1) X.A) (hb : ∀ (s : Shared) (e : Addr), X.K.In s.heap → BindsTo s fd ⟨.ref e :: us, kw⟩ ([p0, p1].zip [.ref e, u])) (hx : Passes CX X (fun _ _ _ => False))
    (ru : RelV v u) (hno : PySem.W.findIn X.K (.ref C) f = some none) (I : Inv X pins σ H s) (hl : us.length ≤ sizeLine) (q : ∀ a dx, H a = none → H dx = none → dx ≠ a → Q (.ref a) (upd (upd H dx (.xd [(f, v)])) a (ExV (.ref C) (some dx) a))) :
    wpAny (model X.prog X.w) X.A (call (.ref C) us kw) (EP X pins σ Q) X.xe s := by
  obtain ⟨nm, qn, N, bs, bm, sn, sub, ab, col, dd, k0, k1, k2, k3, k5, hC, hbm⟩ := T.cls
  obtain ⟨hp, g, dr, tk, os⟩ := s
  have hsz : hp.objs.size ≤ hp.objs.size + 1 := Nat.le_succ _
  have hn : H (hp.objs.size + 1) = none := I.hok.fresh hsz
  have kk : ∀ b o, hp.get? b = some o → ((hp.push (PySem.W.kdv_tup us)).push (PySem.HandSPX.excO C hp.objs.size)).get? b = some o := fun b o e => Heap.get?_push_of_some _ (Heap.get?_push_of_some _ e)
  have hget : ((hp.push (PySem.W.kdv_tup us)).push (PySem.HandSPX.excO C hp.objs.size)).get? (hp.objs.size + 1) = some (PySem.HandSPX.excO C hp.objs.size) := by heap_get
  have I2 : Inv X pins σ (upd H (hp.objs.size + 1) (exo (hp.objs.size + 1) C none)) ⟨(hp.push (PySem.W.kdv_tup us)).push (PySem.HandSPX.excO C hp.objs.size), g, dr, tk, os⟩ :=
    I.laid (t' := tk) (a := hp.objs.size + 1) (o := exo (hp.objs.size + 1) C none) (h' := (hp.push (PySem.W.kdv_tup us)).push (PySem.HandSPX.excO C hp.objs.size)) kk hsz (exo_ok hget)
  have r2 : Vals [V.ref (hp.objs.size + 1), v] [Value.ref (hp.objs.size + 1), u] := .cons rfl (.cons ru .nil)
  have hq : spIni X.K f [V.ref (hp.objs.size + 1), v] (upd H (hp.objs.size + 1) (exo (hp.objs.size + 1) C none)) (fun v' H2 => v' = .non ∧ ∃ dx, H dx = none ∧ dx ≠ hp.objs.size + 1 ∧ H2 = upd (upd (upd H (hp.objs.size + 1) (exo (hp.objs.size + 1) C none)) dx (exd dx [(f, v)])) (hp.objs.size + 1) (exo (hp.objs.size + 1) C (some dx))) (fun _ _ _ => False) :=
    ⟨_, C, v, rfl, T, hno, upd_same, fun dx h1 h2 => ⟨rfl, dx, by rw [upd_ne h2] at h1; exact h1, h2, rfl⟩⟩
  refine wpAny_call (VX.callKw F.excBase_ValueError (fun Y => PySem.HandSPX.refsVE_contains Y bm hbm) (I.kIn _ _ hC) (PySem.W.looks_findIn I.kIn iC) (fun self => PySem.W.bind_fn I.kIn self tI) hl
    (codeAny_mono (F1.run _ X.stack _ _ ⟨Value.ref (hp.objs.size + 1) :: us, kw⟩ [Value.ref (hp.objs.size + 1), u] _ _ (fun _ _ _ => False) (hr.make C us kw) (I2.env0.make C us kw) (hb _ (hp.objs.size + 1) I2.kIn) r2 hq) fun r s' hq' => ?_))
  cases r with
  | error er => exact hx pins σ _ _ er s' I2 hq'
  | ok fl =>
    cases fl with
    | ret u' =>
      obtain ⟨v', H2, os2, bare2, un2, hok2, rv, ev, dx, hd1, ne, eH⟩ := hq'
      subst ev
      obtain ⟨h2, g2, d2, t2, os'⟩ := s'
      obtain ⟨t0, G, J, kG, ge, hoe, na⟩ := mk_end0 (d2 := d2) (t2 := t2) (C := C) (a := hp.objs.size + 1) (d := dx) (fs := [(f, v)]) I hsz kk un2 hok2 os2 bare2 (by rw [eH, upd_same]) (by rw [eH, upd_ne ne, upd_same]) hd1
      have na' : upd H dx (.xd [(f, v)]) (hp.objs.size + 1) = none := by rw [upd_ne (Ne.symm ne)]; exact hn
      rw [eH, mk_heap hn ne] at J
      exact ⟨rv, ⟨.ref (hp.objs.size + 1), _, J.laidN (h' := h2) (t' := t2) (a := hp.objs.size + 1) (o := ExV (.ref C) (some dx) (hp.objs.size + 1)) kG ge na' (exV_ok hoe ⟨rfl, rfl⟩ rfl), rfl, q _ dx hn hd1 ne⟩⟩
    | next => exact False.elim hq'
    | brk => exact False.elim hq'
    | cont => exact False.elim hq'
/-- C(e) -/
theorem pe_exV1 {C fI : Addr} {k : Nat} {fd : FuncData} {p0 p1 f x : Str} {e : Expr} {te : TE} {p pos : Pos} {CX : CXT} (T : OexC X.K C) (iC : PySem.W.findIn X.K (.ref C) "__init__" = some (some (.ref fI))) (tI : PySem.W.typeIn X.K (.ref fI) = some (.type "function"))
    (F1 : FnOk X.prog X.w X.K X.mg X.base CX k fI fd [p0, p1] (spIni X.K f)) (hr : Room (k + 1) X.A) (hb : Binds X.K fd [p0, p1] []) (hx : Passes CX X (fun _ _ _ => False)) (hno : PySem.W.findIn X.K (.ref C) f = some none) (hg : Gl X x) (hm : X.mg x = some (.ref C)) (he : PE X e te)
    (hs : starEach [e] X.env = (false, eval e X.env) :: starEach [] X.env := by rfl) (hdb : (x == ("__debug__" : Str)) = false := by decide) :
    PE X (.Call (.Name x p) [e] [] pos) (fun σ H Q => te σ H fun v H1 => ∀ a dx, H1 a = none → H1 dx = none → dx ≠ a → Q (.ref a) (upd (upd H1 dx (.xd [(f, v)])) a (ExV (.ref C) (some dx) a))) := by
  refine ⟨fun pins s σ H Q I h => ?_⟩
  refine wpAny_Call_Name_kw (ld_glob I hg hm ?_ hdb)
  refine PySem.W.callWith_K (h₀ := X.base) I.ok.mod.kin T.kC ?_ hs (by rfl)
  rw [hs]
  show wpAny _ _ (spliced ((false, eval e X.env) :: backTo pos (starEach [] X.env))) _ _ s
  refine Calls.spliced_cons (thn (he.run pins s σ H _ I h) fun u s1 ⟨v, H1, I1, r1, q1⟩ => ?_)
  refine Calls.spliced_nil ⟨I1.kIn, ?_⟩
  show wpAny _ _ (call (.ref C) [u]) _ _ _
  exact mkV (us := [u]) (kw := []) T iC tI F1 hr (fun s e k => hb s [.ref e, u] k rfl) hx r1 hno I1 (by show 1 ≤ sizeLine; rw [sizeLine_eq]; omega) q1
/-- C(x = e) -/
theorem pe_exVK {C fI : Addr} {k : Nat} {fd : FuncData} {p0 p1 f x : Str} {kws : List Keyword} {tk : TA} {p pos : Pos} {CX : CXT} (T : OexC X.K C) (iC : PySem.W.findIn X.K (.ref C) "__init__" = some (some (.ref fI))) (tI : PySem.W.typeIn X.K (.ref fI) = some (.type "function"))
    (F1 : FnOk X.prog X.w X.K X.mg X.base CX k fI fd [p0, p1] (spIni X.K f)) (hr : Room (k + 1) X.A) (hb : ∀ (s : Shared) (e : Addr) (u : Value), X.K.In s.heap → BindsTo s fd ⟨[.ref e], [(p1, u)]⟩ ([p0, p1].zip [.ref e, u])) (hx : Passes CX X (fun _ _ _ => False)) (hno : PySem.W.findIn X.K (.ref C) f = some none) (hg : Gl X x) (hm : X.mg x = some (.ref C)) (hkw : PK X kws tk)
    (hall : (backToKw pos (keywordEach kws X.env)).all (·.1.isSome) = true := by rfl) (hks : (backToKw pos (keywordEach kws X.env)).filterMap (·.1) = [p1] := by rfl) (hdb : (x == ("__debug__" : Str)) = false := by decide)
    (hpl : ((backTo pos (starEach [] X.env)).any (·.1) || (backToKw pos (keywordEach kws X.env)).any (·.1.isNone)) = false := by rfl) :
    PE X (.Call (.Name x p) [] kws pos) (fun σ H Q => tk σ H fun vs H1 => ∃ v, vs = [v] ∧ ∀ a dx, H1 a = none → H1 dx = none → dx ≠ a → Q (.ref a) (upd (upd H1 dx (.xd [(f, v)])) a (ExV (.ref C) (some dx) a))) := by
  refine ⟨fun pins s σ H Q I h => ?_⟩
  refine wpAny_Call_Name_kw (ld_glob I hg hm ?_ hdb)
  refine PySem.W.callWith_KW0 (h₀ := X.base) I.ok.mod.kin T.kC hall ?_ hpl
  refine thn (hkw.run pos pins s σ H _ I h) fun ws s1 ⟨zs, H1, I1, rz, v, ev, q1⟩ => ⟨I1.kIn, ?_⟩
  rw [hks]
  subst ev
  cases rz with
  | @cons _ u _ us ru rr =>
    cases rr
    exact mkV (us := []) (kw := [(p1, u)]) T iC tI F1 hr (fun s e k => hb s e u k) hx ru hno I1 (Nat.zero_le _) q1
/-- C(), a class without own __init__ -/
theorem pe_exV0 {C : Addr} {bmB : List Value} {B newId initId : String} {x : Str} {p pos : Pos} (F : ExcBaseFacts B newId initId bmB) (q : PySem.W.excIn X.K C bmB newId = true) (gC : X.mg x = some (.ref C)) (kC : PySem.W.keepIn X.K (.ref C) = true) (hg : Gl X x)
    (hdb : (x == ("__debug__" : Str)) = false := by decide) : PE X (.Call (.Name x p) [] [] pos) (fun _ H Q => ∀ a, H a = none → Q (.ref a) (upd H a (ExV (.ref C) none a))) := by
  refine ⟨fun pins s σ H Q I h => ?_⟩
  refine wpAny_Call_Name_kw (ld_glob I hg gC ?_ hdb)
  refine PySem.W.callWith_K0 I.kIn kC ?_
  show wpAny _ _ (call (.ref C) []) _ _ _
  obtain ⟨bm, N, nm, qn, bs, hdct, sn, sub, ab, col, dd, k0, k1, k2, k3, k5, mN, hC, hN, hni, T⟩ := exc_obj I.kIn q
  refine wpAny_call_exc_subT F T hC hN hni (fun h' a hm => ?_) (Nat.zero_le _)
  have hn : H a = none := I.hok.gone hm.new
  obtain ⟨t, ht, _, _⟩ := hm.there
  exact ⟨.ref a, upd H a (ExV (.ref C) none a), I.laidN hm.keeps hm.new hn (exV_ok ht ⟨rfl, rfl⟩ rfl), rfl, h a hn⟩
/-- what the written part says of an exception class, to read its objects -/
structure XcC (K : PySem.W.Frag) (C : Addr) : Prop where
  cl : (PySem.W.clsIn K C).isSome = true
  ga : PySem.W.findIn K (.ref C) "__getattribute__" = some (some (.builtin "BaseException.__getattribute__"))
  gt : PySem.W.findIn K (.ref C) "__getattr__" = some none
  sb : PySem.W.subIn K (.ref C) (.type "BaseException") = some true
  hd : PySem.W.hasDictIn K C = true
  cc : PySem.W.findIn K (.ref C) "__class__" = some (some (.builtin "object.__class__"))
  hn : PySem.W.specialIn K (.builtin "object.__class__") "__get__" = some (some (.builtin "getset_descriptor.__get__"))
  tk : PySem.W.takesIn K (.builtin "object.__class__") = some true
  mo : PySem.W.mroIn K C (.type "object") = some true
theorem xcB_ok {K : PySem.W.Frag} {C : Addr} (h : xcB K C = true) : XcC K C := by
  unfold xcB at h
  simp only [Bool.and_eq_true, decide_eq_true_eq] at h
  obtain ⟨h1, h2, h3, h4, h5, h6, h7, h8, h9⟩ := h
  exact ⟨h1, h2, h3, h4, h5, h6, h7, h8, h9⟩
theorem exh_at {a : Addr} {cls : Value} {d : Option Addr} (I : Inv X pins σ H s) (e : ExH H a cls d) : ∃ (oe : Obj) (vs : Array Value), s.heap.get? a = some oe ∧ Zc cls d oe ∧ oe.data = .fields vs := by
  rcases e with e | ⟨oe, e⟩
  · exact (show ObjOk X.prog X.w H s.heap a (.ext _) from I.hok a _ e).1
  · exact (show ObjOk X.prog X.w H s.heap a (.ext _) from (I.hok a _ e).2).1
theorem inst_of {a C : Addr} {d : Option Addr} (I : Inv X pins σ H s) (e : ExH H a (.ref C) d) (hd : ∀ p, d = some p → ∃ fs, H p = some (.xd fs)) : ∃ (oe : Obj) (od : Option Obj), PySem.W.InstAt s.heap a oe C od := by
  obtain ⟨oe, vs, h1, hz, h2⟩ := exh_at I e
  obtain ⟨oc, odd, oda, osl⟩ := oe
  obtain ⟨z1, z2⟩ := hz
  dsimp only at z1 z2 h2
  subst z1 z2 h2
  cases odd with
  | none => exact ⟨_, none, ⟨h1, rfl, rfl, trivial⟩⟩
  | some p =>
    obtain ⟨fs, hp⟩ := hd p rfl
    obtain ⟨mA, ⟨o, _, _, ho, _⟩, _⟩ := (show ObjOk X.prog X.w H s.heap p (.xd fs) from I.hok p _ hp)
    exact ⟨_, some o, ⟨h1, rfl, rfl, ho⟩⟩
def rIsX (K : PySem.W.Frag) : List V → Hp → VK → Prop := fun xs H Q => ∃ (a C : Addr) (d : Option Addr) (c : V) (u : Value) (b : Bool), xs = [.ref a, c] ∧ ExH H a (.ref C) d ∧ (∀ p, d = some p → ∃ fs, H p = some (.xd fs)) ∧ XcC K C ∧ ClsV c u ∧ PySem.W.kitOne K (.ref C) u = some b ∧ Q (.bl b) H
def rIsXT (K : PySem.W.Frag) : List V → Hp → VK → Prop := fun xs H Q => ∃ (a C tp : Addr) (d : Option Addr) (cs : List V) (us : List Value) (b : Bool), xs = [.ref a, .ref tp] ∧ ExH H a (.ref C) d ∧ (∀ p, d = some p → ∃ fs, H p = some (.xd fs)) ∧ XcC K C ∧ H tp = some (.tup cs) ∧ Paired ClsV cs us ∧ PySem.W.kitAny K (.ref C) us = some b ∧ Q (.bl b) H
theorem call_isX : CallR X (.builtin "isinstance") (rIsX X.K) := by
  intro pins s σ H xs us Q I r h
  obtain ⟨a, C, d, c, u, b, rfl, ea, hd, T, k, e, q⟩ := h
  obtain ⟨u1, u2, rfl, r1, r2⟩ := vals2 r
  have e2 := k.eq r2
  subst e2
  cases (show u1 = Value.ref a from r1)
  obtain ⟨oe, od, J⟩ := inst_of I ea hd
  exact PySem.W.kia_one (PySem.W.kitx_exc T.cl T.ga T.gt T.sb T.cc T.hn T.tk T.mo) I.kIn J e (fun z => nomatch z) fun tk => ⟨.bl b, H, I.tok tk, rfl, q⟩
theorem call_isXT : CallR X (.builtin "isinstance") (rIsXT X.K) := by
  intro pins s σ H xs us Q I r h
  obtain ⟨a, C, tp, d, cs, ws, b, rfl, ea, hd, T, hT, k, e, q⟩ := h
  obtain ⟨u1, u2, rfl, r1, r2⟩ := vals2 r
  cases (show u1 = Value.ref a from r1)
  cases (show u2 = Value.ref tp from r2)
  obtain ⟨oe, od, J⟩ := inst_of I ea hd
  obtain ⟨_, its, rv, o, h1, h2, n, h3⟩ := (show ObjOk X.prog X.w H s.heap tp (.tup cs) from I.hok tp _ hT)
  have e3 := ClsV.all k rv
  subst e3
  obtain ⟨oc, odd, dt, sl⟩ := o
  simp only at h2 h3
  subst h2 h3
  exact PySem.W.kia_tup (PySem.W.kitx_exc T.cl T.ga T.gt T.sb T.cc T.hn T.tk T.mo) I.kIn J h1 e (fun z => nomatch z) fun tk => ⟨.bl b, H, I.tok tk, rfl, q⟩
/-- e.f, e a held exception -/
def tXa (K : PySem.W.Frag) (f : Str) (to : TE) : TE := fun σ H Q => to σ H fun x H1 => ∃ (a C dd : Addr) (fs : List (Str × V)) (v : V), x = .ref a ∧ ExH H1 a (.ref C) (some dd) ∧ XcC K C ∧ PySem.W.findIn K (.ref C) f = some none ∧ H1 dd = some (.xd fs) ∧ fs.lookup f = some v ∧ Q v H1
theorem pe_xa {o : Expr} {to : TE} {f : Str} {pos : Pos} (ho : PE X o to) (hb : attributeBase o f X.env (eval o X.env) = eval o X.env := by rfl) : PE X (.Attribute o f pos) (tXa X.K f to) := by
  refine ⟨fun pins s σ H Q I h => ?_⟩
  refine attr_of hb (thn (ho.run pins s σ H _ I h) fun u s1 hh => ?_)
  obtain ⟨x, H1, I1, rx, a, C, dd, fs, v, ex, ea, T, hno, ed, l, q⟩ := hh
  subst ex
  obtain rfl : u = Value.ref a := rx
  obtain ⟨oe, vs, h1, hz, h2⟩ := exh_at I1 ea
  obtain ⟨mA, hns, hr⟩ := (show ObjOk X.prog X.w H1 s1.heap dd (.xd fs) from I1.hok dd _ ed)
  obtain ⟨od, ho2, hl⟩ := lookIn_ns hns
  obtain ⟨u, hu, ru⟩ := RelO.some_of (v := v) (o := mA f) (by rw [← l]; exact hr f)
  have J : PySem.W.InstAt s1.heap a oe C (some od) := ⟨h1, hz.1, by unfold PySem.W.notCls; rw [h2] <;> rfl, by rw [hz.2]; exact ho2⟩
  exact HandSPX.exc_get I1.kIn J T.ga T.gt T.sb (PySem.W.findObj_own T.hd hno rfl (by rw [hl, hu])) (handed_of ru) ⟨v, H1, I1.tok _, ru, q⟩
end
end VI
end

section
set_option Elab.async false
set_option linter.all false
set_option autoImplicit false
set_option maxRecDepth 100000
/-! VI, 12: names, constants, isinstance, exceptions held, zip, walked cells, displays -/
namespace VI
open PySem PySem.Spec L2
section
variable {G : Gc} {W : WX} {pv : Bool} {X : Cx}
theorem pe_varD {i : Nat} {x : Str} {pos : Pos} (hN : X.N[i]? = some x) (hv : Vis X.env.scope x) (hd : (x == ("__debug__" : Str)) = false) (hcd : (x == ("__classdict__" : Str)) = false) : PE X (.Name x pos) (tE G W pv (fVar i) .z fun m => m[i]? = some .z) := (pe_var hN hv hd hcd).impD fun σ H Q q => var_tE q
theorem pe_borD {i : Nat} {x : Str} {pos : Pos} (hN : X.N[i]? = some x) (hv : Vis X.env.scope x) (hd : (x == ("__debug__" : Str)) = false) (hcd : (x == ("__classdict__" : Str)) = false) : PE X (.Name x pos) (tE G W pv (fVar i) .b fun m => m[i]? = some .z ∨ m[i]? = some .o) := (pe_var hN hv hd hcd).impD fun σ H Q q => bor_tE q
theorem pe_intD {i : Int} {j : Nat} {pos : Pos} : PE X (.Constant (.int i) j pos) (tE G W pv (fCon (.int i)) .z fun _ => True) := pe_int.impD fun σ H Q q => con_tE (fun _ _ _ => .int i) q
theorem pe_strD {i : Str} {j : Nat} {pos : Pos} : PE X (.Constant (.str i) j pos) (tE G W pv (fCon (.str i)) .z fun _ => True) := pe_str.impD fun σ H Q q => con_tE (fun _ _ _ => .str i) q
theorem pe_boolD {i : Bool} {j : Nat} {pos : Pos} : PE X (.Constant (.bool i) j pos) (tE G W pv (fCon (.bl i)) .z fun _ => True) := pe_bl.impD fun σ H Q q => con_tE (fun _ _ _ => .bl i) q
theorem pe_nonD {j : Nat} {pos : Pos} : PE X (.Constant .none j pos) (tE G W pv (fCon .non) .z fun _ => True) := pe_non.impD fun σ H Q q => con_tE (fun _ _ _ => .non) q
/-- a global value (a text, a number, a def) -/
theorem pe_globD {x : Str} {v : V} {u : Value} {d : D} {pos : Pos} (hg : Gl X x) (hm : X.mg x = some u) (r : RelV v u) (h : ∀ H Z c, Rep G.gv H Z c v d) (hdb : (x == ("__debug__" : Str)) = false) : PE X (.Name x pos) (tE G W pv (fCon d) .z fun _ => True) := (pe_glob hg hm r hdb).impD fun σ H Q q => con_tE h q

/-! ### isinstance -/
theorem pe_isi1D {e c : Expr} {t : Ty} {f : Dl → Store → Res} {k : Kd} {okm : List Md → Prop} {p pos : Pos} (hg : Gl X "isinstance") (hm : X.mg "isinstance" = none) (he : PE X e (tE G W pv f k okm)) (hc : PE X c (tC (.ty t.name)))
    (hs : starEach [e, c] X.env = (false, eval e X.env) :: starEach [c] X.env) (hs2 : starEach [c] X.env = (false, eval c X.env) :: starEach [] X.env) (hpl : (backTo pos (starEach [c] X.env)).any (·.1) = false) :
    PE X (.Call (.Name "isinstance" p) [e, c] [] pos) (tE G W pv (fin1 f (gIsi1 [t])) .z okm) :=
  (pe_callB call_isiY hg hm PyProof.Rows.boot_isinstance (pa_cons he (pa_cons hc pa_nil hs2) hs) (by decide) (by decide) hs hpl).impD fun σ H Q q => un_tE (isi1_ok _ t) q
theorem pe_isiTD {e : Expr} {cs : List Expr} {ts : List Ty} {f : Dl → Store → Res} {k : Kd} {okm : List Md → Prop} {p pos p2 : Pos} {j : Nat} (hg : Gl X "isinstance") (hm : X.mg "isinstance" = none) (he : PE X e (tE G W pv f k okm)) (hb : ∀ t : Ty, X.mg (Str.ofString t.name) = none) (hn : isNames X.env.scope cs ts = true)
    (hs : starEach [e, .Tuple cs j p2] X.env = (false, eval e X.env) :: starEach [.Tuple cs j p2] X.env) (hs2 : starEach [.Tuple cs j p2] X.env = (false, eval (.Tuple cs j p2) X.env) :: starEach [] X.env) (hpl : (backTo pos (starEach [.Tuple cs j p2] X.env)).any (·.1) = false) :
    PE X (.Call (.Name "isinstance" p) [e, .Tuple cs j p2] [] pos) (tE G W pv (fin1 f fun S d => if ts.length ≤ 1000 then gIsi1 ts S d else none) .z okm) :=
  (pe_callB call_isiTY hg hm PyProof.Rows.boot_isinstance (pa_cons he (pa_cons (pe_tup (pa_names hb cs ts hn)) pa_nil hs2) hs) (by decide) (by decide) hs hpl).impD fun σ H Q q => un_tE (isiT_ok _ ts) q

/-! ### exceptions held -/
def kitA (kit : Nat → Nat → Option Bool) (j : Nat) : List Nat → Option Bool
  | [] => some false
  | k :: ks => match kit j k with
    | some true => some true
    | some false => kitA kit j ks
    | none => none
def gIsX (kit : Nat → Nat → Option Bool) (ks : List Nat) (_ : Store) (d : D) : Option D := match d with
  | .exc j _ => (kitA kit j ks).map .bl
  | _ => none
/-- what the written part says of the classes: cls: the classes that isinstance asks for, by number -/
structure KitOk (K : PySem.W.Frag) (gv : Gv) (kit : Nat → Nat → Option Bool) (cls : Nat → Option V) : Prop where
  cv : ∀ (k : Nat) (v : V), cls k = some v → ∃ u, ClsV v u
  kt : ∀ (j k : Nat) (b : Bool) (C : Addr) (fs : List Str) (v : V) (u : Value), kit j k = some b → gv.x j = some (C, fs) → cls k = some v → ClsV v u → PySem.W.kitOne K (.ref C) u = some b
  xc : ∀ (j : Nat) (C : Addr) (fs : List Str), gv.x j = some (C, fs) → XcC K C
theorem exc_at {gv : Gv} {H : Hp} {Z : Addr → Prop} {c : List Addr} {v : V} {j : Nat} {ds : List D} (h : Vw gv H Z c v (.exc j ds)) : ∃ (a C : Addr) (fs : List Str) (d : Option Addr), v = .ref a ∧ gv.x j = some (C, fs) ∧ ExH H a (.ref C) d ∧ (∀ p, d = some p → ∃ fs, H p = some (.xd fs)) := by
  cases h with
  | rep r => cases r with
    | obj _ _ b => cases b
    | exc0 h1 h2 => exact ⟨_, _, _, _, rfl, h1, h2, fun p e => by cases e⟩
    | exc1 h1 h2 h3 _ _ => exact ⟨_, _, _, _, rfl, h1, h2, fun p e => by cases e; exact ⟨_, h3⟩⟩
  | top _ _ b _ => cases b
end
section
variable {K : PySem.W.Frag} {gv : Gv} {kit : Nat → Nat → Option Bool} {cls : Nat → Option V} (hk : KitOk K gv kit cls)
include hk
theorem kit_cls' : ∀ {ks : List Nat} {vs : List V}, Paired (fun k v => cls k = some v) ks vs → ∃ us, Paired ClsV vs us
  | [], _, .nil => ⟨[], .nil⟩
  | k :: ks, v :: vs, .cons h t => by
    obtain ⟨u, hu⟩ := hk.cv k v h
    obtain ⟨us, hus⟩ := kit_cls' t
    exact ⟨u :: us, .cons hu hus⟩
theorem kitA_ok {j : Nat} {C : Addr} {fs : List Str} (hx : gv.x j = some (C, fs)) : ∀ {ks : List Nat} {vs : List V} {us : List Value} {b : Bool}, Paired (fun k v => cls k = some v) ks vs → Paired ClsV vs us → kitA kit j ks = some b → PySem.W.kitAny K (.ref C) us = some b
  | [], _, _, b, .nil, .nil, h => h
  | k :: ks, v :: vs, u :: us, b, .cons h1 t, .cons h2 t2, h => by
    unfold kitA at h
    unfold PySem.W.kitAny
    cases hq : kit j k with
    | none => rw [hq] at h; cases h
    | some q =>
      rw [hk.kt j k q C fs v u hq hx h1 h2]
      rw [hq] at h
      cases q with
      | true => exact h
      | false => exact kitA_ok hx t t2 h
end
section
variable {G : Gc} {W : WX} {pv : Bool} {X : Cx} {kit : Nat → Nat → Option Bool} {cls : Nat → Option V}
theorem isX1_ok {K : PySem.W.Frag} (hk : KitOk K G.gv kit cls) {k : Nat} {v : V} (hc : cls k = some v) : Op1 G (fun x H Q => rIsX K [x, v] H Q) (gIsX kit [k]) .z := by
  intro pu H Z c S w d e Q s h hg q
  cases d with
  | exc j ds =>
    unfold gIsX at hg
    rw [Option.map_eq_some_iff] at hg
    obtain ⟨b, hb, rfl⟩ := hg
    obtain ⟨a, C, fs, od, rfl, hx, ha, hd⟩ := exc_at h
    obtain ⟨u, hu⟩ := hk.cv k v hc
    have h2 := kitA_ok hk hx (.cons hc .nil) (.cons hu .nil) hb
    have h3 : PySem.W.kitOne K (.ref C) u = some b := by
      unfold PySem.W.kitAny at h2
      cases hq : PySem.W.kitOne K (.ref C) u with
      | none => rw [hq] at h2; cases h2
      | some q => rw [hq] at h2; cases q <;> exact h2
    exact ⟨a, C, od, v, u, b, rfl, ha, hd, hk.xc j C fs hx, hu, h3, q _ H Z Adv.refl s (.bl b)⟩
  | _ => cases hg
theorem isXT_ok {K : PySem.W.Frag} (hk : KitOk K G.gv kit cls) {ks : List Nat} {vs : List V} (hc : Paired (fun k v => cls k = some v) ks vs) :
    Op1 G (fun x H Q => vs.length ≤ sizeLine ∧ ∀ p, H p = none → rIsXT K [x, .ref p] (upd H p (.tup vs)) Q) (fun S d => if ks.length ≤ 1000 then gIsX kit ks S d else none) .z := by
  intro pu H Z c S w d e Q s h hg q
  split at hg
  case isFalse => cases hg
  rename_i hl
  have hlen := Paired.length hc
  cases d with
  | exc j ds =>
    unfold gIsX at hg
    rw [Option.map_eq_some_iff] at hg
    obtain ⟨b, hb, rfl⟩ := hg
    obtain ⟨a, C, fs, od, rfl, hx, ha, hd⟩ := exc_at h
    obtain ⟨us, hus⟩ := kit_cls' hk hc
    refine ⟨by rw [← hlen, sizeLine_eq]; omega, fun p hp => ⟨a, C, p, od, vs, us, b, rfl, ?_, fun x ex => ?_, hk.xc j C fs hx, upd_same, hus, kitA_ok hk hx hc hus hb, ?_⟩⟩
    · exact ha.imp (fun ha => (upd_ne (ne_of_none ha hp)).trans ha) fun ⟨oe, ha⟩ => ⟨oe, (upd_ne (ne_of_none ha hp)).trans ha⟩
    · obtain ⟨fs', h'⟩ := hd x ex
      exact ⟨fs', by rw [upd_ne (ne_of_none h' hp)]; exact h'⟩
    · exact q _ _ Z (Adv.new hp) (s.new hp) (.bl b)
  | _ => cases hg
theorem pe_isX1D {e cl : Expr} {k : Nat} {v : V} {f : Dl → Store → Res} {kd : Kd} {okm : List Md → Prop} {p pos : Pos} (hk : KitOk X.K G.gv kit cls) (hv : cls k = some v) (hg : Gl X "isinstance") (hm : X.mg "isinstance" = none) (he : PE X e (tE G W pv f kd okm)) (hc : PE X cl (tC v))
    (hs : starEach [e, cl] X.env = (false, eval e X.env) :: starEach [cl] X.env) (hs2 : starEach [cl] X.env = (false, eval cl X.env) :: starEach [] X.env) (hpl : (backTo pos (starEach [cl] X.env)).any (·.1) = false) :
    PE X (.Call (.Name "isinstance" p) [e, cl] [] pos) (tE G W pv (fin1 f (gIsX kit [k])) .z okm) :=
  (pe_callB call_isX hg hm PyProof.Rows.boot_isinstance (pa_cons he (pa_cons hc pa_nil hs2) hs) (by decide) (by decide) hs hpl).impD fun σ H Q q => un_tE (isX1_ok hk hv) q
theorem pe_isXTD {e : Expr} {cs : List Expr} {ks : List Nat} {vs : List V} {f : Dl → Store → Res} {kd : Kd} {okm : List Md → Prop} {p pos p2 : Pos} {j : Nat} (hk : KitOk X.K G.gv kit cls) (hv : Paired (fun k v => cls k = some v) ks vs) (hg : Gl X "isinstance") (hm : X.mg "isinstance" = none) (he : PE X e (tE G W pv f kd okm)) (hc : PA X cs fun _ H Q => Q vs H)
    (hs : starEach [e, .Tuple cs j p2] X.env = (false, eval e X.env) :: starEach [.Tuple cs j p2] X.env) (hs2 : starEach [.Tuple cs j p2] X.env = (false, eval (.Tuple cs j p2) X.env) :: starEach [] X.env) (hpl : (backTo pos (starEach [.Tuple cs j p2] X.env)).any (·.1) = false) :
    PE X (.Call (.Name "isinstance" p) [e, .Tuple cs j p2] [] pos) (tE G W pv (fin1 f fun S d => if ks.length ≤ 1000 then gIsX kit ks S d else none) .z okm) :=
  (pe_callB call_isXT hg hm PyProof.Rows.boot_isinstance (pa_cons he (pa_cons (pe_tup hc) pa_nil hs2) hs) (by decide) (by decide) hs hpl).impD fun σ H Q q => un_tE (isXT_ok hk hv) q
theorem pa_cls {x : Str} {p : Pos} {es : List Expr} {vs : List V} {v : V} (h : PE X (.Name x p) (tC v)) (t : PA X es fun _ H Q => Q vs H) (hs : starEach (.Name x p :: es) X.env = (false, eval (.Name x p) X.env) :: starEach es X.env) : PA X (.Name x p :: es) fun _ H Q => Q (v :: vs) H := pa_cons h t hs
/-- the field of a held exception; ok: the classes that have it -/
def gFld (ok : List Nat) (_ : Store) (d : D) : Option D := match d with
  | .exc j [e] => if ok.contains j then some e else none
  | _ => none
theorem pe_fldD {o : Expr} {fld : Str} {ok : List Nat} {f : Dl → Store → Res} {kd : Kd} {okm : List Md → Prop} {pos : Pos} (hF : ∀ j ∈ ok, ∀ C fs, G.gv.x j = some (C, fs) → fs = [fld] ∧ XcC X.K C ∧ PySem.W.findIn X.K (.ref C) fld = some none) (ho : PE X o (tE G W pv f kd okm)) (hb : attributeBase o fld X.env (eval o X.env) = eval o X.env) :
    PE X (.Attribute o fld pos) (tE G W pv (fin1 f (gFld ok)) .z okm) := (pe_xa ho hb).impD fun σ H Q q => by
  refine un_tE (r := fun x H1 Q => ∃ (a C dd : Addr) (fs : List (Str × V)) (v : V), x = .ref a ∧ ExH H1 a (.ref C) (some dd) ∧ XcC X.K C ∧ PySem.W.findIn X.K (.ref C) fld = some none ∧ H1 dd = some (.xd fs) ∧ fs.lookup fld = some v ∧ Q v H1) ?_ q
  intro pu H Z c S w d e Q s h hg q
  unfold gFld at hg
  split at hg
  case h_2 => cases hg
  rename_i j e'
  split at hg
  case isFalse => cases hg
  rename_i hj
  cases hg
  cases h with
  | top _ _ b _ => cases b
  | rep r => cases r with
    | obj _ _ b => cases b
    | @exc1 _ a C p fs vs _ h1 h2 h3 h4 h5 =>
      obtain ⟨rfl, xc, hno⟩ := hF j (by simpa using hj) C fs h1
      cases h5 with
      | @cons v _ vs' _ r t =>
        cases t
        exact ⟨a, C, p, [(fld, v)], v, rfl, h2, xc, hno, h3, by simp [List.lookup], q v H Z Adv.refl s r⟩
/-- C(e) -/
def fExc (j : Nat) (f : Dl → Store → Res) : Dl → Store → Res := fun δ S => bindR (f δ S) fun d S1 => .ok (.exc j [d]) S1
theorem exc_tE {j : Nat} {C : Addr} {fld : Str} {f : Dl → Store → Res} {kd : Kd} {okm : List Md → Prop} (hx : G.gv.x j = some (C, [fld])) (hk : kd ≠ .b) {σ : L2.St} {H : Hp} {Q : VK} (q : tE G W pv (fExc j f) .z okm σ H Q) :
    tE G W pv f kd okm σ H fun v H1 => ∀ a dx, H1 a = none → H1 dx = none → dx ≠ a → Q (.ref a) (upd (upd H1 dx (.xd [(fld, v)])) a (ExV (.ref C) (some dx) a)) := by
  obtain ⟨E, m, δ, S, Z, c, R, ok, q⟩ := q
  refine ⟨E, m, δ, S, Z, c, R, ok, ?_⟩
  unfold fExc bindR at q
  cases hf : f δ S with
  | st => rw [hf] at q; exact q
  | ex j ds S' => rw [hf] at q; exact q
  | ok d S1 =>
    rw [hf] at q
    dsimp only at q
    intro v H1 Z1 c1 a1 s1 rk a dx ha hdx ne
    obtain ⟨Z2, a2, s2, r2, _⟩ := rk.frz hk a1 s1
    have n2 : upd H1 dx (.xd [(fld, v)]) a = none := by rw [upd_ne (Ne.symm ne)]; exact ha
    have A1 : Adv pv H1 Z2 c1 (upd H1 dx (.xd [(fld, v)])) Z2 c1 := Adv.new hdx
    have A2 : Adv pv (upd H1 dx (.xd [(fld, v)])) Z2 c1 (upd (upd H1 dx (.xd [(fld, v)])) a (ExV (.ref C) (some dx) a)) Z2 c1 := Adv.new n2
    have S1' := s2.new (o := .xd [(fld, v)]) hdx
    have S2' := S1'.new (o := ExV (.ref C) (some dx) a) n2
    refine q _ _ Z2 c1 ((a2.trans A1).trans A2) S2' (.exc1 (vs := [v]) (p := dx) hx (.inl upd_same) ?_ rfl (.cons ((r2.mono (A1.grow s2)).mono (A2.grow S1')) .nil))
    rw [upd_ne ne, upd_same]
    rfl
theorem pe_excD {C fI : Addr} {j k : Nat} {fd : FuncData} {p0 p1 fld x : Str} {e : Expr} {f : Dl → Store → Res} {kd : Kd} {okm : List Md → Prop} {p pos : Pos} {CX : CXT} (T : OexC X.K C) (iC : PySem.W.findIn X.K (.ref C) "__init__" = some (some (.ref fI))) (tI : PySem.W.typeIn X.K (.ref fI) = some (.type "function"))
    (F1 : FnOk X.prog X.w X.K X.mg X.base CX k fI fd [p0, p1] (spIni X.K fld)) (hr : Room (k + 1) X.A) (hb : Binds X.K fd [p0, p1] []) (hx : Passes CX X (fun _ _ _ => False)) (hno : PySem.W.findIn X.K (.ref C) fld = some none) (hg : Gl X x) (hm : X.mg x = some (.ref C)) (hxc : G.gv.x j = some (C, [fld])) (hk : kd ≠ .b) (he : PE X e (tE G W pv f kd okm))
    (hs : starEach [e] X.env = (false, eval e X.env) :: starEach [] X.env) (hdb : (x == ("__debug__" : Str)) = false) : PE X (.Call (.Name x p) [e] [] pos) (tE G W pv (fExc j f) .z okm) :=
  (pe_exV1 T iC tI F1 hr hb hx hno hg hm he hs hdb).impD fun σ H Q q => exc_tE hxc hk q
theorem pe_excKD {C fI : Addr} {j k : Nat} {fd : FuncData} {p0 p1 fld x : Str} {e : Expr} {kp : Pos} {f : Dl → Store → Res} {kd : Kd} {okm : List Md → Prop} {p pos : Pos} {CX : CXT} (T : OexC X.K C) (iC : PySem.W.findIn X.K (.ref C) "__init__" = some (some (.ref fI))) (tI : PySem.W.typeIn X.K (.ref fI) = some (.type "function"))
    (F1 : FnOk X.prog X.w X.K X.mg X.base CX k fI fd [p0, p1] (spIni X.K fld)) (hr : Room (k + 1) X.A) (hb : ∀ (s : Shared) (e : Addr) (u : Value), X.K.In s.heap → BindsTo s fd ⟨[.ref e], [(p1, u)]⟩ ([p0, p1].zip [.ref e, u])) (hx : Passes CX X (fun _ _ _ => False)) (hno : PySem.W.findIn X.K (.ref C) fld = some none) (hg : Gl X x) (hm : X.mg x = some (.ref C)) (hxc : G.gv.x j = some (C, [fld])) (hk : kd ≠ .b) (he : PE X e (tE G W pv f kd okm))
    (hall : (backToKw pos (keywordEach [⟨some p1, e, kp⟩] X.env)).all (·.1.isSome) = true) (hks : (backToKw pos (keywordEach [⟨some p1, e, kp⟩] X.env)).filterMap (·.1) = [p1]) (hdb : (x == ("__debug__" : Str)) = false)
    (hpl : ((backTo pos (starEach [] X.env)).any (·.1) || (backToKw pos (keywordEach [⟨some p1, e, kp⟩] X.env)).any (·.1.isNone)) = false) : PE X (.Call (.Name x p) [] [⟨some p1, e, kp⟩] pos) (tE G W pv (fExc j f) .z okm) :=
  (pe_exVK T iC tI F1 hr hb hx hno hg hm (pk_cons he pk_nil) hall hks hdb hpl).impD fun σ H Q q => by
    obtain ⟨E, m, δ, S, Z, c, R, ok, q2⟩ := exc_tE hxc hk q
    refine ⟨E, m, δ, S, Z, c, R, ok, ?_⟩
    cases hf : f δ S with
    | st => rw [hf] at q2; exact q2
    | ex j ds S' => rw [hf] at q2; exact q2
    | ok d S1 =>
      rw [hf] at q2
      exact fun v H1 Z1 c1 a1 s1 rk => ⟨v, rfl, q2 v H1 Z1 c1 a1 s1 rk⟩
/-- C(), no field -/
def fExc0 (j : Nat) : Dl → Store → Res := fun _ S => .ok (.exc j []) S
theorem pe_exc0D {C : Addr} {j : Nat} {bmB : List Value} {B newId initId : String} {x : Str} {p pos : Pos} (F : ExcBaseFacts B newId initId bmB) (q : PySem.W.excIn X.K C bmB newId = true) (gC : X.mg x = some (.ref C)) (kC : PySem.W.keepIn X.K (.ref C) = true) (hg : Gl X x) (hxc : G.gv.x j = some (C, []))
    (hdb : (x == ("__debug__" : Str)) = false) : PE X (.Call (.Name x p) [] [] pos) (tE G W pv (fExc0 j) .z fun _ => True) := (pe_exV0 F q gC kC hg hdb).impD fun σ H Q q => by
  obtain ⟨E, m, δ, S, Z, c, R, ok, q⟩ := q
  intro a ha
  exact q _ _ Z c (Adv.new ha) (R.st.new ha) (.exc0 hxc (.inl upd_same))
end
end VI
end

section
set_option Elab.async false
set_option linter.all false
set_option autoImplicit false
set_option maxRecDepth 100000
/-! VI, 13: walked cells, zip, dict displays, dicts walked -/
namespace VI
open PySem PySem.Spec L2
section
variable {G : Gc} {W : WX} {pv : Bool} {X : Cx} {tg : Expr}
/-- cells may be walked where nothing changes them -/
def derP (pv : Bool) (S : Store) (d : D) : D := if pv then der S d else d
theorem lst_stay {gv : Gv} {H : Hp} {Z : Addr → Prop} {c : List Addr} {S : Store} {v : V} {d : D} {ds : List D} (s : StoreOk gv H Z c S) (r : Rep gv H Z c v d) (e : derP pv S d = .lst ds) :
    ∃ a vs, v = .ref a ∧ Reps gv H Z c vs ds ∧ H a = some (.lst vs) ∧ ∀ H2 Z2 c2, Go pv H Z c H2 Z2 c2 → H2 a = some (.lst vs) := by
  have key : ∀ d', d' = VI.D.lst ds → Rep gv H Z c v d' → ∃ a vs, v = .ref a ∧ Reps gv H Z c vs ds ∧ H a = some (.lst vs) ∧ ∀ H2 Z2 c2, Go pv H Z c H2 Z2 c2 → H2 a = some (.lst vs) := by
    rintro d' rfl r
    cases r with
    | obj h z b => cases b with
      | lst r => exact ⟨_, _, rfl, r, h.lst, fun H2 Z2 c2 g => (g.1.zk _ _ h z trivial).lst⟩
  cases pv with
  | false => exact key d e r
  | true =>
    cases d with
    | cell n =>
      cases r with
      | obj _ _ b => cases b
      | cell hn =>
        obtain ⟨sc, o, h1, h2, h3, h4, h5⟩ := s.ok _ _ hn
        have e2 : sc.d = .lst ds := by
          have e3 : (match S[n]? with
            | some s => s.d
            | none => D.non) = .lst ds := e
          rw [h1] at e3
          exact e3
        rw [e2] at h4
        obtain ⟨us, rfl, ru⟩ := bd_lst h4
        have h6 : H _ = some (.lst us) := h2.at'.lst
        exact ⟨_, us, rfl, ru, h6, fun H2 Z2 c2 g => g.2.1 rfl _ (List.mem_of_getElem? hn) _ h6⟩
    | lst xs => exact key _ (by simpa [derP, der] using e) r
    | _ => simp [derP, der] at e
theorem tup_stay {gv : Gv} {H : Hp} {Z : Addr → Prop} {c : List Addr} {S : Store} {v : V} {d : D} {ds : List D} (s : StoreOk gv H Z c S) (r : Rep gv H Z c v d) (e : derP pv S d = .tup ds) :
    ∃ a vs, v = .ref a ∧ Reps gv H Z c vs ds ∧ H a = some (.tup vs) ∧ ∀ H2 Z2 c2, Go pv H Z c H2 Z2 c2 → H2 a = some (.tup vs) := by
  have key : ∀ d', d' = VI.D.tup ds → Rep gv H Z c v d' → ∃ a vs, v = .ref a ∧ Reps gv H Z c vs ds ∧ H a = some (.tup vs) ∧ ∀ H2 Z2 c2, Go pv H Z c H2 Z2 c2 → H2 a = some (.tup vs) := by
    rintro d' rfl r
    cases r with
    | obj h z b => cases b with
      | tup r => exact ⟨_, _, rfl, r, h.tup, fun H2 Z2 c2 g => (g.1.zk _ _ h z trivial).tup⟩
  cases pv with
  | false => exact key d e r
  | true =>
    cases d with
    | cell n =>
      exfalso
      have e3 : (match S[n]? with
        | some s => s.d
        | none => D.non) = .tup ds := e
      cases h : S[n]? with
      | none => rw [h] at e3; cases e3
      | some sc => rw [h] at e3; cases sc <;> cases e3
    | tup xs => exact key _ (by simpa [derP, der] using e) r
    | _ => simp [derP, der] at e
def fItP (pv : Bool) (f : Dl → Store → Res) : Dl → Store → Ress := fun δ S => match f δ S with
  | .ok d S' => (match seqIt (derP pv S' d) with
    | some xs => .ok xs S'
    | none => .st)
  | .ex j ds S' => .ex j ds S'
  | .st => .st
theorem pi_seqP {l : Expr} {f : Dl → Store → Res} {okm : List Md → Prop} (h : PE X l (tE G W pv f .z okm)) : PI X tg l (tIt G W pv (fItP pv f) okm) := (pi_seq h).impD fun σ H R q => by
  obtain ⟨E, m, δ, S, Z, c, R', ok, q⟩ := q
  refine ⟨E, m, δ, S, Z, c, R', ok, ?_⟩
  unfold fItP at q
  cases hf : f δ S with
  | st => rw [hf] at q; exact q
  | ex j ds S' => rw [hf] at q; exact q
  | ok d S' =>
    rw [hf] at q
    dsimp only at q
    intro v H' Z' c' a s rk
    cases hd : derP pv S' d with
    | lst xs =>
      rw [hd] at q
      obtain ⟨p, vs, rfl, rs, hp, st⟩ := lst_stay s rk hd
      refine .inl ⟨_, rfl, ⟨_, .inl (.inl hp)⟩, q _ H' Z' c' a s fun H2 Z2 c2 S2 g s2 => ?_⟩
      have h2 : SqL X.K H2 p vs := .inl (.inl (st H2 Z2 c2 g))
      have r2 := rs.mono g.1
      refine ⟨fun i hi => ?_, fun i hi => ⟨vs, h2, by rw [rs.length]; exact hi⟩, fun i d x H3 e y => ?_⟩
      · have hi' : i < vs.length := by rw [rs.length]; exact hi
        exact ⟨vs, vs[i], h2, List.getElem?_eq_getElem hi'⟩
      · obtain ⟨e3, y⟩ := y
        subst e3
        obtain ⟨w, hw, rw'⟩ := r2.get e
        have := (y vs h2).symm.trans hw
        cases this
        exact ⟨Z2, Adv.refl, s2, rw'⟩
    | tup xs =>
      rw [hd] at q
      obtain ⟨p, vs, rfl, rs, hp, st⟩ := tup_stay s rk hd
      refine .inr (.inl ⟨_, rfl, ⟨_, .inl (.inl hp)⟩, q _ H' Z' c' a s fun H2 Z2 c2 S2 g s2 => ?_⟩)
      have h2 : SqT X.K H2 p vs := .inl (.inl (st H2 Z2 c2 g))
      have r2 := rs.mono g.1
      refine ⟨fun i hi => ?_, fun i hi => ⟨vs, h2, by rw [rs.length]; exact hi⟩, fun i d x H3 e y => ?_⟩
      · have hi' : i < vs.length := by rw [rs.length]; exact hi
        exact ⟨vs, vs[i], h2, List.getElem?_eq_getElem hi'⟩
      · obtain ⟨e3, y⟩ := y
        subst e3
        obtain ⟨w, hw, rw'⟩ := r2.get e
        have := (y vs h2).symm.trans hw
        cases this
        exact ⟨Z2, Adv.refl, s2, rw'⟩
    | str y =>
      rw [hd] at q
      have hd2 : d = .str y := by
        cases pv with
        | false => exact hd
        | true =>
          cases d with
          | cell n =>
            have e3 : (match S'[n]? with
              | some s => s.d
              | none => D.non) = .str y := hd
            cases h : S'[n]? with
            | none => rw [h] at e3; cases e3
            | some sc => rw [h] at e3; cases sc <;> cases e3
          | str z => simpa [derP, der] using hd
          | _ => simp [derP, der] at hd
      subst hd2
      exact .inr (.inr ⟨y, (Vr.rep rk).str, q _ H' Z' c' a s (walk_str y)⟩)
    | _ => rw [hd] at q; exact q.elim
/-! ### zip -/
def zipD : D → D → Option (List D)
  | .lst xs, .lst ys => some (List.zipWith (fun x y => .tup [x, y]) xs ys)
  | .tup xs, .tup ys => some (List.zipWith (fun x y => .tup [x, y]) xs ys)
  | _, _ => none
def fZip (pv : Bool) (f : Dl → Store → Ress) : Dl → Store → Ress := fun δ S => match f δ S with
  | .ok [d, e] S' => (match zipD (derP pv S' d) (derP pv S' e) with
    | some xs => .ok xs S'
    | none => .st)
  | .ok _ _ => .st
  | .ex j ds S' => .ex j ds S'
  | .st => .st
theorem zip_walk {gv : Gv} {J : It} {H : Hp} {Z : Addr → Prop} {c : List Addr} {vs ws : List V} {ds es : List D} (r : Reps gv H Z c vs ds) (r' : Reps gv H Z c ws es)
    (go : ∀ H2 Z2 c2 (i : Nat), Go pv H Z c H2 Z2 c2 → i < vs.length → i < ws.length → J.go i H2) (stp : ∀ H2 Z2 c2 (i : Nat), Go pv H Z c H2 Z2 c2 → (vs.length ≤ i ∨ ws.length ≤ i) → J.stop i H2)
    (yl : ∀ H2 Z2 c2 (i : Nat) v H3, Go pv H Z c H2 Z2 c2 → J.yld i H2 v H3 → ∃ T x y, v = .ref T ∧ H2 T = none ∧ H3 = upd H2 T (.tup [x, y]) ∧ vs[i]? = some x ∧ ws[i]? = some y) :
    WalkOk gv pv H Z c J (List.zipWith (fun x y => VI.D.tup [x, y]) ds es) := by
  intro H2 Z2 c2 S2 g s2
  have hl : (List.zipWith (fun x y => VI.D.tup [x, y]) ds es).length = min ds.length es.length := List.length_zipWith
  have l1 := r.length
  have l2 := r'.length
  refine ⟨fun i hi => go H2 Z2 c2 i g (by omega) (by omega), fun i hi => stp H2 Z2 c2 i g (by omega), fun i d x H3 e y => ?_⟩
  obtain ⟨T, a, b, rfl, hT, rfl, ha, hb⟩ := yl H2 Z2 c2 i x H3 g y
  obtain ⟨da, hda, ra⟩ := r.getV ha
  obtain ⟨db, hdb, rb⟩ := r'.getV hb
  rw [List.getElem?_zipWith, hda, hdb] at e
  cases e
  refine ⟨Z2, Adv.new hT, s2.new hT, .obj (.inl upd_same) (.inr trivial) ((Bd.tup (.cons (ra.mono g.1) (.cons (rb.mono g.1) .nil))).mono ((Adv.new (pu := true) hT).grow s2))⟩
theorem pi_zipD {e e2 : Expr} {f : Dl → Store → Ress} {okm : List Md → Prop} {p pos tpos : Pos} {elts : List Expr} {kk : Nat} (hg : Gl X "zip") (hm : X.mg "zip" = none) (ha : PA X [e, e2] (tAs G W pv f true okm))
    (hs : starEach [e, e2] X.env = (false, eval e X.env) :: starEach [e2] X.env) (hpl : (backTo pos (starEach [e2] X.env)).any (·.1) = false) :
    PI X (.Tuple elts kk tpos) (.Call (.Name "zip" p) [e, e2] [] pos) (tIt G W pv (fZip pv f) okm) := (RZ.pi_zipA hg hm ha hs hpl).impD fun σ H R q => by
  obtain ⟨E, m, δ, S, Z, c, R', ok, q⟩ := q
  refine ⟨E, m, δ, S, Z, c, R', ok, ?_⟩
  unfold fZip at q
  cases hf : f δ S with
  | st => rw [hf] at q; exact q
  | ex j ds S' => rw [hf] at q; exact q
  | ok ds S' =>
    rw [hf] at q
    intro vs H' Z' c' a s _ rs
    have rs := rs rfl
    match ds, q, rs with
    | [d, e], q, rs =>
      dsimp only at q
      cases rs with
      | @cons v _ vs _ r rs => cases rs with
        | @cons w _ _ _ r' rs =>
          cases rs
          cases h1 : derP pv S' d with
          | lst xs =>
            cases h2 : derP pv S' e with
            | lst ys =>
              rw [h1, h2] at q
              obtain ⟨a1, vs, rfl, q1, hp1, st1⟩ := lst_stay s r h1
              obtain ⟨a2, ws, rfl, q2, hp2, st2⟩ := lst_stay s r' h2
              refine ⟨a1, a2, vs, ws, rfl, .inl ⟨.inl (.inl hp1), .inl (.inl hp2), q _ H' Z' c' a s (zip_walk q1 q2 (fun H2 Z2 c2 i g l1 l2 => ?_) (fun H2 Z2 c2 i g l => ?_) fun H2 Z2 c2 i v H3 g y => ?_)⟩⟩
              · exact ⟨vs, ws, vs[i], ws[i], .inl (.inl (st1 H2 Z2 c2 g)), .inl (.inl (st2 H2 Z2 c2 g)), List.getElem?_eq_getElem l1, List.getElem?_eq_getElem l2⟩
              · exact ⟨vs, ws, .inl (.inl (st1 H2 Z2 c2 g)), .inl (.inl (st2 H2 Z2 c2 g)), l⟩
              · obtain ⟨T, x, y, e1, e2, e3, e4, e5⟩ := y
                exact ⟨T, x, y, e1, e2, e3, e4 vs (.inl (.inl (st1 H2 Z2 c2 g))), e5 ws (.inl (.inl (st2 H2 Z2 c2 g)))⟩
            | _ => rw [h1, h2] at q; exact q.elim
          | tup xs =>
            cases h2 : derP pv S' e with
            | tup ys =>
              rw [h1, h2] at q
              obtain ⟨a1, vs, rfl, q1, hp1, st1⟩ := tup_stay s r h1
              obtain ⟨a2, ws, rfl, q2, hp2, st2⟩ := tup_stay s r' h2
              refine ⟨a1, a2, vs, ws, rfl, .inr ⟨.inl (.inl hp1), .inl (.inl hp2), q _ H' Z' c' a s (zip_walk q1 q2 (fun H2 Z2 c2 i g l1 l2 => ?_) (fun H2 Z2 c2 i g l => ?_) fun H2 Z2 c2 i v H3 g y => ?_)⟩⟩
              · exact ⟨vs, ws, vs[i], ws[i], .inl (.inl (st1 H2 Z2 c2 g)), .inl (.inl (st2 H2 Z2 c2 g)), List.getElem?_eq_getElem l1, List.getElem?_eq_getElem l2⟩
              · exact ⟨vs, ws, .inl (.inl (st1 H2 Z2 c2 g)), .inl (.inl (st2 H2 Z2 c2 g)), l⟩
              · obtain ⟨T, x, y, e1, e2, e3, e4, e5⟩ := y
                exact ⟨T, x, y, e1, e2, e3, e4 vs (.inl (.inl (st1 H2 Z2 c2 g))), e5 ws (.inl (.inl (st2 H2 Z2 c2 g)))⟩
            | _ => rw [h1, h2] at q; exact q.elim
          | _ => rw [h1] at q; cases h2 : derP pv S' e <;> rw [h2] at q <;> exact q.elim
    | [], q, _ => exact q.elim
    | [_], q, _ => exact q.elim
    | _ :: _ :: _ :: _, q, _ => exact q.elim
end
end VI
end

section
set_option Elab.async false
set_option linter.all false
set_option autoImplicit false
set_option maxRecDepth 100000
/-! VI, 14: dicts walked, locked meanwhile -/
namespace VI
open PySem PySem.Spec L2
section
variable {gv gv' : Gv} {H : Hp} {Z : Addr → Prop} {c : List Addr}
mutual
theorem Rep.cg (hf : gv'.f = gv.f) (hx : gv'.x = gv.x) (hq : gv'.q = gv.q) : ∀ {v : V} {d : D}, Rep gv H Z c v d → Rep gv' H Z c v d
  | _, _, .non => .non
  | _, _, .bl b => .bl b
  | _, _, .int i => .int i
  | _, _, .str x => .str x
  | _, _, .obj h z b => .obj h z (Bd.cg hf hx hq b)
  | _, _, .cell h => .cell h
  | _, _, .fn h => .fn (by rw [hf]; exact h)
  | _, _, .exc0 h1 h2 => .exc0 (by rw [hx]; exact h1) h2
  | _, _, .exc1 h1 h2 h3 h4 h5 => .exc1 (by rw [hx]; exact h1) h2 h3 h4 (Reps.cg hf hx hq h5)
  | _, _, .scr h => .scr h
  | _, _, .scrK h => .scrK (by rw [hq]; exact h)
  | _, _, .scrZ h z => .scrZ h z
theorem Reps.cg (hf : gv'.f = gv.f) (hx : gv'.x = gv.x) (hq : gv'.q = gv.q) : ∀ {vs : List V} {ds : List D}, Reps gv H Z c vs ds → Reps gv' H Z c vs ds
  | _, _, .nil => .nil
  | _, _, .cons r t => .cons (Rep.cg hf hx hq r) (Reps.cg hf hx hq t)
theorem Bd.cg (hf : gv'.f = gv.f) (hx : gv'.x = gv.x) (hq : gv'.q = gv.q) : ∀ {o : HO} {d : D}, Bd gv H Z c o d → Bd gv' H Z c o d
  | _, _, .lst r => .lst (Reps.cg hf hx hq r)
  | _, _, .tup r => .tup (Reps.cg hf hx hq r)
  | _, _, .dK e r => .dK e (Reps.cg hf hx hq r)
  | _, _, .dT e r => .dT e (Reps.cg hf hx hq r)
end
end
theorem dct_mut {o : HO} (h : isDct o) : isMut o := by cases o <;> first | trivial | exact h.elim
theorem dct_dat {o : HO} (h : isDct o) : isDat o := by cases o <;> first | trivial | exact h.elim
theorem dat_nfrz {ob : Obj} {u : HO} : ¬ isDat (.frz ob u) := id
/-- locked, unlocked -/
theorem grow_lock {H : Hp} {Z : Addr → Prop} {c : List Addr} {a : Addr} {u : HO} {od : Obj} (h : H a = some u) (hd : isDct u) : Grow H Z c (upd H a (.frz od u)) Z c := by
  refine ⟨fun x o hx z dt => ?_, fun x o w hx nd => ?_, fun x o hx xo => ?_, fun _ h => h, fun _ _ h => h⟩
  · by_cases e : x = a
    · subst e
      rcases hx with hx | ⟨_, ob, hx⟩
      · rw [h] at hx; cases hx
        exact .inr ⟨hd, od, upd_same⟩
      · rw [h] at hx; cases hx; exact hd.elim
    · rcases hx with hx | ⟨d, ob, hx⟩
      · exact .inl (by rw [upd_ne e]; exact hx)
      · exact .inr ⟨d, ob, by rw [upd_ne e]; exact hx⟩
  · have e : x ≠ a := by rintro rfl; rw [h] at hx; cases hx; exact hd.elim
    rw [upd_ne e]; exact hx
  · have e : x ≠ a := by rintro rfl; rw [h] at hx; cases hx; exact mut_xo (dct_mut hd) xo
    rw [upd_ne e]; exact hx
theorem grow_unlock {H : Hp} {Z : Addr → Prop} {c : List Addr} {a : Addr} {u : HO} {od : Obj} (h : H a = some (.frz od u)) (hd : isDct u) : Grow H Z c (upd H a u) Z c := by
  refine ⟨fun x o hx z dt => ?_, fun x o w hx nd => ?_, fun x o hx xo => ?_, fun _ h => h, fun _ _ h => h⟩
  · by_cases e : x = a
    · subst e
      rcases hx with hx | ⟨_, ob, hx⟩
      · rw [h] at hx; cases hx; exact dt.elim
      · rw [h] at hx; cases hx; exact .inl upd_same
    · rcases hx with hx | ⟨d, ob, hx⟩
      · exact .inl (by rw [upd_ne e]; exact hx)
      · exact .inr ⟨d, ob, by rw [upd_ne e]; exact hx⟩
  · have e : x ≠ a := by rintro rfl; rw [h] at hx; cases hx; exact nd hd
    rw [upd_ne e]; exact hx
  · have e : x ≠ a := by rintro rfl; rw [h] at hx; cases hx; exact xo
    rw [upd_ne e]; exact hx
theorem tabs_un {T : List (Addr × Str)} {H : Hp} {a : Addr} {u : HO} {od : Obj} (t : Tabx T H) (h : H a = some (.frz od u)) (no : NT u) : Tabx T (upd H a u) := ⟨fun q hq => by
  obtain ⟨ps, h1, h2, h3⟩ := t.1 q hq
  have n1 : q.1 ≠ a := fun e => by rw [e, h] at h1; cases h1
  refine ⟨ps, by rw [upd_ne n1]; exact h1, h2, fun pos cv hc => ?_⟩
  obtain ⟨c, e1, e2⟩ := h3 pos cv hc
  have n2 : c ≠ a := fun e => by rw [e, h] at e2; cases e2
  exact ⟨c, e1, by rw [upd_ne n2]; exact e2⟩, trivial⟩
def lkAdd (lk : Addr → Prop) (a : Addr) : Addr → Prop := fun x => lk x ∨ x = a
section
variable {G : Gc} {pv : Bool} {lk : Addr → Prop} {H : Hp} {Z : Addr → Prop} {c : List Addr} {S : Store} {a : Addr} {u : HO} {od : Obj}
theorem store_lock (s : StoreOk (G.L lk).gv H Z c S) (h : H a = some u) (hd : isDct u) : StoreOk (G.L (lkAdd lk a)).gv (upd H a (.frz od u)) Z c S := by
  have g : Grow H Z c (upd H a (.frz od u)) Z c := grow_lock h hd
  refine ⟨s.len, s.nd, fun n x e => ?_, fun x z => ?_, tabs_mut s.tb h (dct_mut hd) (fun ps e => by cases e)⟩
  · obtain ⟨sc, o, h1, h2, h3, h4, h5⟩ := s.ok n x e
    refine ⟨sc, o, h1, ?_, h3, Bd.cg (gv := (G.L lk).gv) (gv' := (G.L (lkAdd lk a)).gv) rfl rfl rfl (h4.mono g), h5⟩
    by_cases ex : x = a
    · subst ex
      rcases h2 with h2 | ⟨_, _, ob, h2⟩
      · rw [h] at h2; cases h2
        exact .inr ⟨.inr rfl, hd, od, upd_same⟩
      · rw [h] at h2; cases h2; exact hd.elim
    · rcases h2 with h2 | ⟨h2, d, ob, h6⟩
      · exact .inl (by rw [upd_ne ex]; exact h2)
      · exact .inr ⟨.inl h2, d, ob, by rw [upd_ne ex]; exact h6⟩
  · obtain ⟨o, ho⟩ := s.zt x z
    by_cases ex : x = a
    · exact ⟨_, by rw [ex, upd_same]⟩
    · exact ⟨o, by rw [upd_ne ex]; exact ho⟩
theorem store_unlock (s : StoreOk (G.L (lkAdd lk a)).gv H Z c S) (h : H a = some (.frz od u)) (hd : isDct u) : StoreOk (G.L lk).gv (upd H a u) Z c S := by
  have g : Grow H Z c (upd H a u) Z c := grow_unlock h hd
  refine ⟨s.len, s.nd, fun n x e => ?_, fun x z => ?_, tabs_un s.tb h (mut_nt (dct_mut hd))⟩
  · obtain ⟨sc, o, h1, h2, h3, h4, h5⟩ := s.ok n x e
    refine ⟨sc, o, h1, ?_, h3, Bd.cg (gv := (G.L (lkAdd lk a)).gv) (gv' := (G.L lk).gv) rfl rfl rfl (h4.mono g), h5⟩
    by_cases ex : x = a
    · subst ex
      rcases h2 with h2 | ⟨_, _, ob, h2⟩
      · rw [h] at h2; cases h2; exact h3.elim
      · rw [h] at h2; cases h2; exact .inl upd_same
    · rcases h2 with h2 | ⟨h2 | h2, d, ob, h6⟩
      · exact .inl (by rw [upd_ne ex]; exact h2)
      · exact .inr ⟨h2, d, ob, by rw [upd_ne ex]; exact h6⟩
      · exact absurd h2 ex
  · obtain ⟨o, ho⟩ := s.zt x z
    by_cases ex : x = a
    · exact ⟨_, by rw [ex, upd_same]⟩
    · exact ⟨o, by rw [upd_ne ex]; exact ho⟩
end
/-- the items: the keys of the dict that the i-th name holds -/
def fKeys (pv : Bool) (i : Nat) : Dl → Store → Ress := fun δ S => match δ[i]? with
  | some (some d) => (match derP pv S d with
    | .dct _ ks _ => .ok ks S
    | _ => .st)
  | _ => .st
section
variable {G : Gc} {W : WX} {pv : Bool} {X : Cx} {tg : Expr} {lk : Addr → Prop}
/-- the dict's object: of Z or a cell; it stays as it is, where it is locked -/
theorem dct_at {gv : Gv} {H : Hp} {Z : Addr → Prop} {c : List Addr} {S : Store} {v : V} {d : D} {t : Bool} {ks vs : List D} (s : StoreOk gv H Z c S) (r : Rep gv H Z c v d) (e : derP pv S d = .dct t ks vs) :
    ∃ a o, v = .ref a ∧ At H a o ∧ Bd gv H Z c o (.dct t ks vs) ∧ (Z a ∨ (pv = true ∧ a ∈ c)) := by
  have key : ∀ d', d' = VI.D.dct t ks vs → Rep gv H Z c v d' → ∃ a o, v = .ref a ∧ At H a o ∧ Bd gv H Z c o (.dct t ks vs) ∧ (Z a ∨ (pv = true ∧ a ∈ c)) := by
    rintro d' rfl r
    cases r with
    | obj h z b =>
      refine ⟨_, _, rfl, h, b, .inl ?_⟩
      rcases z with z | z
      · exact z
      · cases b <;> exact z.elim
  cases pv with
  | false => exact key d e r
  | true =>
    cases d with
    | cell n =>
      cases r with
      | obj _ _ b => cases b
      | cell hn =>
        obtain ⟨sc, o, h1, h2, h3, h4, h5⟩ := s.ok _ _ hn
        have e3 : (match S[n]? with
          | some s => s.d
          | none => D.non) = .dct t ks vs := e
        rw [h1] at e3
        dsimp only at e3
        rw [e3] at h4
        exact ⟨_, o, rfl, h2.at', h4, .inr ⟨rfl, List.mem_of_getElem? hn⟩⟩
    | dct _ _ _ => exact key _ (by simpa [derP, der] using e) r
    | _ => simp [derP, der] at e
theorem bd_dct {gv : Gv} {H : Hp} {Z : Addr → Prop} {c : List Addr} {o : HO} {t : Bool} {ks vs : List D} (b : Bd gv H Z c o (.dct t ks vs)) : isDct o := by cases b <;> trivial
/-- the locked dict's keys -/
theorem keys_tIt {i : Nat} {okm : List Md → Prop} {σ : L2.St} {H : Hp} {R : It → Hp → Prop} (hz : ∀ m, okm m → m[i]? = some .z)
    (hl : ∀ a, σ[i]? = some (some (.ref a)) → ∃ od u, isDct u ∧ H a = some (.frz od u)) (q : tIt G W pv (fKeys pv i) okm σ H R) : iKeys (tVar i) σ H R := by
  obtain ⟨E, m, δ, S, Z, c, R', ok, q⟩ := q
  unfold fKeys at q
  cases h : δ[i]? with
  | none => rw [h] at q; exact q.elim
  | some o => cases o with
    | none => rw [h] at q; exact q.elim
    | some d =>
      rw [h] at q
      dsimp only at q
      obtain ⟨v, hv, rv⟩ := R'.zs i d (hz m ok) h
      cases hd : derP pv S d with
      | dct t ks vs =>
        rw [hd] at q
        dsimp only at q
        obtain ⟨a, o, rfl, ha, hb, hw⟩ := dct_at R'.st rv hd
        obtain ⟨od, u, du, hu⟩ := hl a hv
        have eo : u = o := by
          rcases ha with ha | ⟨_, ob, ha⟩
          · rw [hu] at ha; cases ha; exact (bd_dct hb).elim
          · rw [hu] at ha; cases ha; rfl
        subst eo
        have st : ∀ H2 Z2 c2, Go pv H Z c H2 Z2 c2 → H2 a = some (.frz od u) := fun H2 Z2 c2 g => by
          rcases hw with hw | ⟨hp, hw⟩
          · exact g.2.2 a _ hw hu (fun ps e => by cases e)
          · exact g.2.1 hp a hw _ hu
        refine ⟨.ref a, hv, a, od, rfl, ?_⟩
        cases hb with
        | @dK kvs _ _ ek rv2 =>
          refine .inl ⟨kvs, hu, q _ H Z c Adv.refl R'.st fun H2 Z2 c2 S2 g s2 => ?_⟩
          have hlen : ks.length = kvs.length := by rw [ek, List.length_map]
          refine ⟨fun j hj => ⟨st H2 Z2 c2 g, by omega⟩, fun j hj => ⟨st H2 Z2 c2 g, by omega⟩, fun j d x H3 e y => ?_⟩
          obtain ⟨rfl, k, v, e2, rfl⟩ := y
          rw [ek, List.getElem?_map, e2] at e
          cases e
          refine ⟨Z2, Adv.refl, s2, ?_⟩
          cases k with
          | inl i => exact .int i
          | inr x => exact .str x
        | @dT kvs _ _ ek rv2 =>
          refine .inr ⟨kvs, hu, q _ H Z c Adv.refl R'.st fun H2 Z2 c2 S2 g s2 => ?_⟩
          have hlen : ks.length = kvs.length := by rw [ek, List.length_map]
          refine ⟨fun j hj => ⟨st H2 Z2 c2 g, by omega⟩, fun j hj => ⟨st H2 Z2 c2 g, by omega⟩, fun j d x H3 e y => ?_⟩
          obtain ⟨rfl, k, v, p, e2, rfl, hp⟩ := y
          rw [ek, List.getElem?_map, e2] at e
          cases e
          exact ⟨Z2, Adv.refl, s2, .obj (.inl hp) (.inr trivial) (.tup (reps_keys k))⟩
      | _ => rw [hd] at q; exact q.elim
/-- the state, the dict locked -/
theorem lock_tE {i : Nat} {f : Dl → Store → Res} {okm : List Md → Prop} (hz : ∀ m, okm m → m[i]? = some .z) (hf : ∀ δ S, (∃ d t ks vs, δ[i]? = some (some d) ∧ derP pv S d = .dct t ks vs) ∨ f δ S = .st) (hx : ∀ δ S j ds S', f δ S ≠ .ex j ds S') {σ : L2.St} {H : Hp} {Q : VK} (q : tE (G.L lk) W pv f .o okm σ H Q) :
    ∃ a, σ[i]? = some (some (.ref a)) ∧ ((∃ od u, isDct u ∧ H a = some (.frz od u)) ∨ ∃ u, isDct u ∧ H a = some u ∧ ∀ od, tE (G.L (lkAdd lk a)) W pv f .o okm σ (upd H a (.frz od u)) fun v H' => H' a = some (.frz od u) ∧ Q v (upd H' a u)) := by
  obtain ⟨E, m, δ, S, Z, c, R, ok, q⟩ := q
  rcases hf δ S with ⟨d, t, ks, vs, h, hd⟩ | h
  case inr => rw [h] at q; exact q.elim
  obtain ⟨v, hv, rv⟩ := R.zs i d (hz m ok) h
  obtain ⟨a, o, rfl, ha, hb, hw⟩ := dct_at R.st rv hd
  refine ⟨a, hv, ?_⟩
  rcases ha with ha | ⟨hdo, ob, ha⟩
  case inr => exact .inl ⟨ob, o, hdo, ha⟩
  have hdo := bd_dct hb
  refine .inr ⟨o, hdo, ha, fun od => ?_⟩
  have g : Grow H Z c (upd H a (.frz od o)) Z c := grow_lock ha hdo
  have hnw : ∀ x, x ∉ c → ¬ Z x → x ≠ a := fun x h1 h2 e => by
    rcases hw with hw | ⟨_, hw⟩
    · exact h2 (by rw [e]; exact hw)
    · exact h1 (by rw [e]; exact hw)
  refine ⟨⟨fun x => if x = a then none else E.H x, E.Z, E.c, fun _ _ _ => True, fun _ _ _ _ _ _ _ h => h⟩, m, δ, S, Z, c, ⟨store_lock R.st ha hdo, ⟨fun x w hx hk nt => ?_, R.adv.zz, fun x z => ?_, ?_, fun x w hx => ?_⟩, trivial, R.lm, R.ld, fun j e h1 h2 => ?_, fun j h1 => ?_, R.ds⟩, ok, ?_⟩
  · dsimp only at hx
    split at hx
    · cases hx
    · rename_i ne
      rw [upd_ne ne]
      exact R.adv.keep x w hx hk nt
  · dsimp only
    split
    · exact .inr rfl
    · exact R.adv.zn x z
  · obtain ⟨n, e, hn⟩ := R.adv.cn
    refine ⟨n, e, fun x hx => ?_⟩
    dsimp only
    split
    · rfl
    · exact hn x hx
  · dsimp only at hx
    split at hx
    · cases hx
    · rename_i ne
      obtain ⟨w', h'⟩ := R.adv.tr x w hx
      exact ⟨w', by rw [upd_ne ne]; exact h'⟩
  · obtain ⟨w, h3, h4⟩ := R.zs j e h1 h2
    exact ⟨w, h3, Rep.cg (gv := (G.L lk).gv) (gv' := (G.L (lkAdd lk a)).gv) rfl rfl rfl (h4.mono g)⟩
  · obtain ⟨e, x, w, h2, h3, h4, h5, h6, h7, h8, h9⟩ := R.os j h1
    refine ⟨e, x, w, h2, h3, by rw [upd_ne (hnw x h8 h7)]; exact h4, h5, Bd.cg (gv := (G.L lk).gv) (gv' := (G.L (lkAdd lk a)).gv) rfl rfl rfl (h6.mono g), h7, h8, ?_⟩
    dsimp only
    rw [if_neg (hnw x h8 h7)]
    exact h9
  · cases hfv : f δ S with
    | st => rw [hfv] at q; exact q
    | ex j ds S' => exact absurd hfv (hx δ S j ds S')
    | ok e S' =>
      rw [hfv] at q
      intro w H' Z' c' a2 s2 rk
      have hH' : H' a = some (.frz od o) := a2.keep a _ upd_same (by
        rcases hw with hw | ⟨hp, hw⟩
        · exact .inr (R.st.notin ha (.inl hw))
        · exact .inl hp) (fun ps e => by cases e)
      have g2 : Grow H' Z' c' (upd H' a o) Z' c' := grow_unlock hH' hdo
      refine ⟨hH', q w _ Z' c' ⟨fun x u hx hk nt => ?_, a2.zz, fun x z => ?_, ?_, fun x u hx => ?_⟩ (store_unlock s2 hH' hdo) ?_⟩
      · by_cases ex : x = a
        · subst ex; rw [upd_same, ← hx, ha]
        · rw [upd_ne ex]
          exact a2.keep x u (by rw [upd_ne ex]; exact hx) hk nt
      · rcases a2.zn x z with z | z
        · exact .inl z
        · by_cases ex : x = a
          · rw [ex, upd_same] at z; cases z
          · rw [upd_ne ex] at z; exact .inr z
      · obtain ⟨n, e2, hn⟩ := a2.cn
        refine ⟨n, e2, fun x hx => ?_⟩
        have z := hn x hx
        by_cases ex : x = a
        · rw [ex, upd_same] at z; cases z
        · rw [upd_ne ex] at z; exact z
      · by_cases ex : x = a
        · exact ⟨_, by rw [ex, upd_same]⟩
        · obtain ⟨u', h'⟩ := a2.tr x u (by rw [upd_ne ex]; exact hx)
          exact ⟨u', by rw [upd_ne ex]; exact h'⟩
      · obtain ⟨L, p, rfl, h1, h2, h3, h4, h5, h6⟩ := rk
        have ne : L ≠ a := fun e => by rw [e, upd_same] at h6; cases h6
        rw [upd_ne ne] at h6
        exact ⟨L, p, rfl, by rw [upd_ne ne]; exact h1, h2, Bd.cg (gv := (G.L (lkAdd lk a)).gv) (gv' := (G.L lk).gv) rfl rfl rfl (h3.mono g2), h4, h5, h6⟩
theorem PE.orD {X : Cx} {e : Expr} {t t' : TE} (h : PE X e t) (h' : PE X e t') : PE X e (fun σ H Q => t σ H Q ∨ t' σ H Q) := ⟨fun pins s σ H Q I q => q.elim (h.run pins s σ H Q I) (h'.run pins s σ H Q I)⟩
theorem PE.exD {α : Type} {X : Cx} {e : Expr} {t : α → TE} (h : ∀ a, PE X e (t a)) : PE X e (fun σ H Q => ∃ a, t a σ H Q) := ⟨fun pins s σ H Q I ⟨a, q⟩ => (h a).run pins s σ H Q I q⟩
theorem fLc_keys_ex {i : Nat} {t : Tgt} {fc fe : Dl → Store → Res} (δ : Dl) (S : Store) : ((∃ d t ks vs, δ[i]? = some (some d) ∧ derP pv S d = .dct t ks vs) ∨ fLc t fc fe (fKeys pv i) δ S = .st) ∧ ∀ j ds S', fLc t fc fe (fKeys pv i) δ S ≠ .ex j ds S' := by
  unfold fLc fKeys
  cases h : δ[i]? with
  | none => exact ⟨.inr rfl, fun _ _ _ e => by cases e⟩
  | some o => cases o with
    | none => exact ⟨.inr rfl, fun _ _ _ e => by cases e⟩
    | some d =>
      dsimp only
      cases hd : derP pv S d with
      | dct t2 ks vs =>
        refine ⟨.inl ⟨d, t2, ks, vs, rfl, hd⟩, fun j ds S' e => ?_⟩
        dsimp only at e
        split at e
        · cases hl : lcD t fc fe δ ks S <;> rw [hl] at e <;> (try dsimp only at e) <;> first | cases e | (split at e <;> cases e)
        · cases e
      | _ => exact ⟨.inr rfl, fun _ _ _ e => by cases e⟩
/-- [.. for x in d], d a name that holds a dict -/
theorem pe_lcK {elt tg iter : Expr} {ifs : List Expr} {scope : Scope} {pos : Pos} {i : Nat} {t : Tgt} {fc fe : Dl → Store → Res} {k : Kd} {okm okc oke : List Md → Prop} {vs : List Nat} (hk : k ≠ .b) (hv : ∀ i ∈ t.slots, i ∈ vs) (hc : ∀ m, okm m → okc (mdT t (xL vs m)) ∧ oke (mdT t (xL vs m))) (hz : ∀ m, okm m → m[i]? = some .z)
    (h : ∀ lk' : Addr → Prop, PE X (.ListComp elt [⟨tg, iter, ifs, 0⟩] scope pos) (tLc (iKeys (tVar i)) (tTg (G.L lk') pv t) (tTst (G.L lk') (fun _ _ _ _ => False) pv fc okc) (tE (G.L lk') (fun _ _ _ _ => False) pv fe k oke) vs)) :
    PE X (.ListComp elt [⟨tg, iter, ifs, 0⟩] scope pos) (tE (G.L lk) W pv (fLc t fc fe (fKeys pv i)) .o okm) := (PE.orD (h lk) (pe_lock (PE.exD h))).impD fun σ H Q q => by
  obtain ⟨a, ha, hl | ⟨u, hu, hH, hl⟩⟩ := lock_tE (i := i) hz (fun δ S => (fLc_keys_ex δ S).1) (fun δ S => (fLc_keys_ex δ S).2) q
  · left
    have z := lc_tE (wi := iKeys (tVar i)) (vs := vs) (W0 := fun _ _ _ _ => False) hk hv hc q
    exact keys_tIt hz (fun b hb => by rw [ha] at hb; cases hb; exact hl) z
  · right
    refine ⟨a, u, hH, ?_, fun od => ⟨lkAdd lk a, ?_⟩⟩
    · cases u <;> first | trivial | exact hu.elim
    · have z := lc_tE (wi := iKeys (tVar i)) (vs := vs) (W0 := fun _ _ _ _ => False) hk hv hc (hl od)
      exact keys_tIt hz (fun b hb => by rw [ha] at hb; cases hb; exact ⟨od, u, hu, upd_same⟩) z
end
end VI
end

section
set_option Elab.async false
set_option linter.all false
set_option autoImplicit false
set_option maxRecDepth 100000
/-! VI, 15: comprehensions, keyword calls, displays -/
namespace VI
open PySem PySem.Spec L2
section
variable {G : Gc} {W : WX} {pv : Bool} {X : Cx} {tg : Expr} {lk : Addr → Prop}
def W0 : WX := fun _ _ _ _ => False
theorem takesB {X : Cx} : Takes X W0 := fun _ _ x => by
  obtain ⟨_, _, _, _, _, _, _, _, _, _, _, _, _, _, _, _, z⟩ := x
  exact z.elim
def fYes : Dl → Store → Res := fCon (.bl true)
theorem pts_nilD : PTs X [] (tTst G W pv fYes fun _ => True) := ⟨fun pins s σ H Q I h => by
  obtain ⟨E, m, δ, S, Z, c, R, ok, b, hb, q⟩ := h
  cases hb
  exact pts_nil.run pins s σ H Q I (q H Z c Adv.refl R.st)⟩
theorem itImp {e : Expr} {f : Dl → Store → Ress} {okm okm' : List Md → Prop} (hm : ∀ m, okm' m → okm m) (h : PI X tg e (tIt G W pv f okm)) : PI X tg e (tIt G W pv f okm') := h.impD fun σ H R q => by
  obtain ⟨E, m, δ, S, Z, c, R', ok, q⟩ := q
  exact ⟨E, m, δ, S, Z, c, R', hm m ok, q⟩
/-- what a comprehension asks of the modes -/
def okLc (t : Tgt) (vs : List Nat) (oki okc oke : List Md → Prop) : List Md → Prop := fun m => oki m ∧ okc (mdT t (xL vs m)) ∧ oke (mdT t (xL vs m))
theorem pe_lcD {elt iter : Expr} {ifs : List Expr} {scope : Scope} {own : List (Str × Nat)} {pos : Pos} {t : Tgt} {fi : Dl → Store → Ress} {fc fe : Dl → Store → Res} {k : Kd} {oki okc oke : List Md → Prop} (hc : X.calm = true) (hN : X.N.Nodup) (ok : BlkOk X.N X.env.scope scope own) (hk : k ≠ .b) (hv : ∀ i ∈ t.slots, i ∈ own.map (·.2)) (hi : PI X tg iter (tIt G W pv fi oki))
    (hg : ∀ (s : Shared) (H : Hp) (C : Addr) (cl : List (Str × Addr)) (fp : List Addr), TgOk (X.blk s H scope (compEnvC scope cl C X.env) fp) tg t) (ht : ∀ (s : Shared) (H : Hp) (C : Addr) (cl : List (Str × Addr)) (fp : List Addr), PTs (X.blk s H scope (compEnvC scope cl C X.env) fp) ifs (tTst G W0 pv fc okc))
    (he : ∀ (s : Shared) (H : Hp) (C : Addr) (cl : List (Str × Addr)) (fp : List Addr), PE (X.blk s H scope (compEnvC scope cl C X.env) fp) elt (tE G W0 pv fe k oke)) (hs : ∀ x, foldedSetIterable iter X.env x = pure x) :
    PE X (.ListComp elt [⟨tg, iter, ifs, 0⟩] scope pos) (tE G W pv (fLc t fc fe fi) .o (okLc t (own.map (·.2)) oki okc oke)) :=
  (pe_lc hc hN (itImp (okm' := okLc t (own.map (·.2)) oki okc oke) (fun m h => h.1) hi) ok (fun s H C cl fp => pg_tgD (G := G) (pv := pv) hc hN (hg s H C cl fp)) ht he hs).impD fun σ H Q q => lc_tE (wi := tIt G W pv fi oki) hk hv (fun m h => h.2) q
theorem ps_setLcD {i : Nat} {y : Str} {py : Pos} {elt iter : Expr} {ifs : List Expr} {scope : Scope} {own : List (Str × Nat)} {pos spos : Pos} {t : Tgt} {fi : Dl → Store → Ress} {fc fe : Dl → Store → Res} {k : Kd} {oki okc oke : List Md → Prop} {rk : Kd} {m : List Md} (hc : X.calm = true) (hN : X.N.Nodup) (hy : X.N[i]? = some y) (hyl : X.env.scope.names.lookup y = some .local) (him : i < m.length)
    (hsw : swapsWith (.ListComp elt [⟨tg, iter, ifs, 0⟩] scope pos) (some (.Name y py)) spos.line X.env = pure true) (ok : BlkOk X.N X.env.scope scope own) (hk : k ≠ .b) (hv : ∀ i ∈ t.slots, i ∈ own.map (·.2)) (hi : PI X tg iter (tIt G W pv fi oki))
    (hg : ∀ (s : Shared) (H : Hp) (C : Addr) (cl : List (Str × Addr)) (fp : List Addr), TgOk (X.blk s H scope (compEnvC scope cl C X.env) fp) tg t) (ht : ∀ (s : Shared) (H : Hp) (C : Addr) (cl : List (Str × Addr)) (fp : List Addr), PTs (X.blk s H scope (compEnvC scope cl C X.env) fp) ifs (tTst G W0 pv fc okc))
    (he : ∀ (s : Shared) (H : Hp) (C : Addr) (cl : List (Str × Addr)) (fp : List Addr), PE (X.blk s H scope (compEnvC scope cl C X.env) fp) elt (tE G W0 pv fe k oke)) (hs : ∀ x, foldedSetIterable iter X.env x = pure x) (hokm : okLc t (own.map (·.2)) oki okc oke m) :
    PS X (.Assign [.Name y py] (.ListComp elt [⟨tg, iter, ifs, 0⟩] scope pos) spos) (tS G W pv rk (sAsg i (fLc t fc fe fi)) m (m.set i .o)) :=
  (ps_setLc hc hN hy hyl hsw (itImp (okm' := okLc t (own.map (·.2)) oki okc oke) (fun m h => h.1) hi) ok (fun s H C cl fp => pg_tgD (G := G) (pv := pv) hc hN (hg s H C cl fp)) ht he hs).impD fun D σ H q => by
    have q2 := asg_tS (k := .o) (okm := okLc t (own.map (·.2)) oki okc oke) (by decide) hokm him q
    exact lc_tE (wi := tIt G W pv fi oki) hk hv (fun m h => h.2) q2
/-! ### keyword calls -/
def tKw (G : Gc) (W : WX) (pv : Bool) (f : Dl → Store → Ress) (okm : List Md → Prop) : TA := tAs G W pv f true okm
theorem pk_nilD : PK X [] (tAs G W pv fNil true fun _ => True) := ⟨fun pos pins s σ H Q I h => by
  obtain ⟨E, m, δ, S, Z, c, R, ok, q⟩ := h
  exact pk_nil.run pos pins s σ H Q I (q [] H Z c Adv.refl R.st .nil fun _ => .nil)⟩
theorem pk_consD {nm : Option Str} {e : Expr} {kp : Pos} {kws : List Keyword} {f : Dl → Store → Res} {g : Dl → Store → Ress} {k : Kd} {okm okm' : List Md → Prop} (hk : k ≠ .b) (ha : PE X e (tE G W pv f k okm)) (hr : PK X kws (tAs G W pv g true okm')) : PK X (⟨nm, e, kp⟩ :: kws) (tAs G W pv (consR f g) true fun m => okm m ∧ okm' m) :=
  ⟨fun pos pins s σ H Q I q => (pk_cons (nm := nm) (kpos := kp) ha hr).run pos pins s σ H Q I (by
    obtain ⟨E, m, δ, S, Z, c, R, ⟨ok, ok'⟩, q⟩ := q
    refine ⟨E, m, δ, S, Z, c, R, ok, ?_⟩
    unfold consR at q
    cases hf : f δ S with
    | st => rw [hf] at q; exact q
    | ex j ds S' => rw [hf] at q; exact q
    | ok d S1 =>
      rw [hf] at q
      dsimp only at q
      intro v H1 Z1 c1 a s rk
      obtain ⟨Z2, a2, s2, r2, _⟩ := rk.frz hk a s
      refine ⟨E, m, δ, S1, Z2, c1, R.step a2 s2, ok', ?_⟩
      cases hg : g δ S1 with
      | st => rw [hg] at q; exact q
      | ex j ds S' => rw [hg] at q; exact fun H' Z' c' cls dd a' s' x => q H' Z' c' cls dd (a2.trans a') s' x
      | ok ds S3 =>
        rw [hg] at q
        dsimp only at q
        intro vs H3 Z3 c3 a3 s3 ws rs
        exact q (v :: vs) H3 Z3 c3 (a2.trans a3) s3 (.cons ((Vw.rep r2).mono a3 s2) ws) fun z => .cons (r2.mono (a3.grow s2)) (rs z))⟩
/-- f(k = v, ..): no positional ones; g, gV: the values in the parameters' order -/
theorem pe_callKD {n k : Nat} {kd : Kd} {pu : Bool} {f : Addr} {fd : FuncData} {ps ks : List Str} {x : Str} {p pos : Pos} {kws : List Keyword} {g : List D → Store → Res} {fa : Dl → Store → Ress} {okm : List Md → Prop} {ga : List Value → List Value} {gV : List V → List V} {gD : List D → List D}
    (F : FnOk X.prog X.w X.K X.mg X.base (L2.CX X.prog X.w) k f fd ps (spD G n kd pu g)) (hr : Room k X.A) (hg : Gl X x) (hm : X.mg x = some (.ref f)) (hk : PySem.W.keepIn X.K (.ref f) = true) (hb : ∀ (s : Shared) (ws : List Value), X.K.In s.heap → ws.length = ks.length → BindsTo s fd ⟨[], ks.zip ws⟩ (ps.zip (ga ws))) (tk : Takes X W)
    (hrel : ∀ (vs : List V) (us : List Value), vs.length = ks.length → Vals vs us → Vals (gV vs) (ga us)) (hD : ∀ {H : Hp} {Z : Addr → Prop} {c : List Addr} {vs : List V} {ds : List D}, ds.length = ks.length → Reps (G.L lk).gv H Z c vs ds → Reps (G.L lk).gv H Z c (gV vs) (gD ds)) (hlen : ∀ ds : List D, ds.length = ks.length → (gD ds).length = n) (hp : pv = true → pu = true) (hlk : pu = true ∨ ∀ a, ¬ lk a) (hl : ∀ δ S ds S', fa δ S = .ok ds S' → ds.length = ks.length) (hkw : PK X kws (tAs (G.L lk) W pv fa true okm))
    (hall : (backToKw pos (keywordEach kws X.env)).all (·.1.isSome) = true) (hks : (backToKw pos (keywordEach kws X.env)).filterMap (·.1) = ks) (hdb : (x == ("__debug__" : Str)) = false) (hpl : ((backTo pos (starEach [] X.env)).any (·.1) || (backToKw pos (keywordEach kws X.env)).any (·.1.isNone)) = false) :
    PE X (.Call (.Name x p) [] kws pos) (tE (G.L lk) W pv (fCall fa fun ds S => g (gD ds) S) kd okm) := by
  refine ⟨fun pins s σ H Q I q => ?_⟩
  obtain ⟨E, m, δ, S, Z, c, R, ok, q⟩ := q
  refine wpAny_Call_Name_kw (ld_glob I hg hm ?_ hdb)
  refine PySem.W.callWith_KW0 (h₀ := X.base) I.ok.mod.kin hk hall ?_ hpl
  have ht : tAs (G.L lk) W pv fa true okm σ H fun vs H1 => vs.length = ks.length ∧ spD G n kd pu g (gV vs) H1 Q (WE W σ) := by
    refine ⟨E, m, δ, S, Z, c, R, ok, ?_⟩
    unfold fCall at q
    cases hf : fa δ S with
    | st => rw [hf] at q; exact q
    | ex j ds S' => rw [hf] at q; exact q
    | ok ds S1 =>
      rw [hf] at q
      dsimp only at q
      intro vs H1 Z1 c1 a s _ rs
      have rs := rs rfl
      have l1 := hl δ S ds S1 hf
      have rs2 := hD l1 rs
      refine ⟨by rw [rs.length]; exact l1, by rw [rs2.length]; exact hlen ds l1, lk, Z1, c1, S1, gD ds, hlk, s, rs2, ?_⟩
      cases hg : g (gD ds) S1 with
      | st => rw [hg] at q; exact q
      | ex j ds S' => rw [hg] at q; exact fun H' Z' c' cls dd a' s' x => q H' Z' c' cls dd (a.trans (a'.weak hp)) s' x
      | ok d S2 => rw [hg] at q; exact fun v H' Z' c' a' s' rk => q v H' Z' c' (a.trans (a'.weak hp)) s' (rk.back a)
  refine thn (hkw.run pos pins s σ H _ I ht) fun ws s1 ⟨zs, H1, I1, rz, lz, q1⟩ => ⟨I1.kIn, ?_⟩
  rw [hks]
  have lw : ws.length = ks.length := by rw [← Paired.length rz]; exact lz
  have r2 := hrel zs ws lz rz
  refine wpAny_call (codeAny_mono (F.run X.A X.stack s1 H1 ⟨[], ks.zip ws⟩ (ga ws) (gV zs) Q (WE W σ) hr I1.env0 (hb s1 ws I1.kIn lw) r2 q1) fun r s' hq => ?_)
  cases r with
  | error e => exact passAt tk σ pins H1 s1 e s' I1 hq
  | ok fl =>
    cases fl with
    | ret u => exact I1.after hq
    | next => exact False.elim hq
    | brk => exact False.elim hq
    | cont => exact False.elim hq
/-! ### {'k': e} -/
def fDisp1 (k : Str) (f : Dl → Store → Res) : Dl → Store → Res := fun δ S => bindR (f δ S) fun d S1 => .ok (.dct false [.str k] [d]) S1
theorem pe_disp1D {k : Str} {j : Nat} {kp pos : Pos} {e : Expr} {f : Dl → Store → Res} {kd : Kd} {okm : List Md → Prop} (hk : kd ≠ .b) (he : PE X e (tE G W pv f kd okm)) : PE X (.Dict [some (.Constant (.str k) j kp)] [e] pos) (tE G W pv (fDisp1 k f) .o okm) :=
  (pe_disp (pps_cons pe_str he pps_nil) rfl rfl (by simp) (by simp)).impD fun σ H Q q => by
    obtain ⟨E, m, δ, S, Z, c, R, ok, q⟩ := q
    intro p hp
    have a0 : Adv pv H Z c (upd H p (.dK [])) Z c := Adv.new hp
    have s0 := R.st.new (o := .dK []) hp
    refine ⟨E, m, δ, S, Z, c, R.step a0 s0, ok, ?_⟩
    unfold fDisp1 bindR at q
    cases hf : f δ S with
    | st => rw [hf] at q; exact q
    | ex j ds S' => rw [hf] at q; exact fun H' Z' c' cls dd a' s' x => q H' Z' c' cls dd (a0.trans a') s' x
    | ok d S1 =>
      rw [hf] at q
      dsimp only at q
      intro v H1 Z1 c1 a1 s1 rk
      obtain ⟨Z2, a2, s2, r2, _⟩ := rk.frz hk a1 s1
      have nc : p ∉ c := fun z => by
        obtain ⟨n, e⟩ := List.getElem?_of_mem z
        exact R.st.ne e hp rfl
      have h1 : H1 p = some (.dK []) := a2.keep p _ upd_same (.inr nc) (fun ps e => by cases e)
      have nz : ¬ Z2 p := fun z => by
        rcases a2.zn p z with z | z
        · obtain ⟨o, ho⟩ := R.st.zt p z
          rw [hp] at ho; cases ho
        · rw [upd_same] at z; cases z
      have nc2 : p ∉ c1 := fun z => by
        obtain ⟨n, e, hn⟩ := a2.cn
        rw [e, List.mem_append] at z
        rcases z with z | z
        · exact nc z
        · have := hn p z; rw [upd_same] at this; cases this
      refine ⟨h1, [(.inr k, v)], rfl, by simp, ?_⟩
      have g : Grow H1 Z2 c1 (upd H1 p (.dK (mergeK [] [(.inr k, v)]))) Z2 c1 := Grow.upd (gv := G.gv) h1 trivial nz
      exact q _ _ Z2 c1 ((a0.trans a2).upd hp) (s2.upd h1 trivial nz nc2) ⟨p, _, rfl, upd_same, trivial, .dK rfl (.cons (r2.mono g) .nil), nz, nc2, hp⟩
end
end VI
end

section
set_option Elab.async false
set_option linter.all false
set_option autoImplicit false
set_option maxRecDepth 100000
/-! VI, 16: the rules as they are named by the printer -/
namespace VI
open PySem PySem.Spec L2
theorem vis_of {sc : Scope} {x : Str} (h : (match sc.names.lookup x with
  | some .local => true
  | some .cell => true
  | some .free => true
  | _ => false) = true) : Vis sc x := by
  unfold Vis
  split at h <;> rename_i e
  · exact .inl e
  · exact .inr (.inl e)
  · exact .inr (.inr e)
  · cases h
theorem nameOk_of {X : Cx} {i : Nat} {x : Str} (n : X.N[i]? = some x) (h : (match X.env.scope.names.lookup x with
  | some .local => true
  | some .cell => X.fn x
  | _ => false) = true) : NameOk X i x := by
  split at h <;> rename_i e
  · exact ⟨n, .inl e, .inr e⟩
  · exact ⟨n, .inr e, .inl h⟩
  · cases h
section
variable {G : Gc} {W : WX} {pv : Bool} {X : Cx} {a b : Expr} {f f' : Dl → Store → Res} {k1 k2 : Kd} {okm okm' : List Md → Prop} {pos : Pos}
theorem pe_addD (ha : PE X a (tE G W pv f k1 okm)) (hb : PE X b (tE G W pv f' k2 okm')) : PE X (.BinOp a .Add b pos) (tE G W pv (fin2 f f' gAdd) .z fun m => okm m ∧ okm' m) := pe_binD ((op_add.or op_add_str).or op_catA) add_ok ha hb
theorem pe_catD (ha : PE X a (tE G W pv f k1 okm)) (hb : PE X b (tE G W pv f' k2 okm')) : PE X (.BinOp a .Add b pos) (tE G W pv (fin2 f f' gCat) .o fun m => okm m ∧ okm' m) := pe_binD op_cat cat_ok ha hb
abbrev gSub : Store → D → D → Option D := gII (fun _ _ => true) fun i j => .int (i - j)
theorem pe_subD (ha : PE X a (tE G W pv f k1 okm)) (hb : PE X b (tE G W pv f' k2 okm')) : PE X (.BinOp a .Sub b pos) (tE G W pv (fin2 f f' gSub) .z fun m => okm m ∧ okm' m) := pe_binD op_sub (ints_ok0 fun _ _ _ _ _ => .int _) ha hb
abbrev gMul : Store → D → D → Option D := gII bMul fun i j => .int (i * j)
theorem pe_mulD (ha : PE X a (tE G W pv f k1 okm)) (hb : PE X b (tE G W pv f' k2 okm')) : PE X (.BinOp a .Mult b pos) (tE G W pv (fin2 f f' gMul) .z fun m => okm m ∧ okm' m) := pe_binD op_mul (ints_ok (fun i j h => by simpa [bMul, CMul, Bool.or_eq_true] using h) fun _ _ _ _ _ => .int _) ha hb
abbrev gFdv : Store → D → D → Option D := gII bDiv fun i j => .int (i.fdiv j)
theorem pe_fdivD (ha : PE X a (tE G W pv f k1 okm)) (hb : PE X b (tE G W pv f' k2 okm')) : PE X (.BinOp a .FloorDiv b pos) (tE G W pv (fin2 f f' gFdv) .z fun m => okm m ∧ okm' m) := pe_binD op_fdivN (ints_ok (fun i j h => by simpa [bDiv, CDivN] using h) fun _ _ _ _ _ => .int _) ha hb
abbrev gMod : Store → D → D → Option D := gII bMod fun i j => .int (i.fmod j)
theorem pe_modD (ha : PE X a (tE G W pv f k1 okm)) (hb : PE X b (tE G W pv f' k2 okm')) : PE X (.BinOp a .Mod b pos) (tE G W pv (fin2 f f' gMod) .z fun m => okm m ∧ okm' m) := pe_binD op_modN (ints_ok (fun i j h => by simpa [bMod] using h) fun _ _ _ _ _ => .int _) ha hb
abbrev gPow : Store → D → D → Option D := gII bPow fun i j => .int (i ^ j.toNat)
theorem pe_powD (ha : PE X a (tE G W pv f k1 okm)) (hb : PE X b (tE G W pv f' k2 okm')) : PE X (.BinOp a .Pow b pos) (tE G W pv (fin2 f f' gPow) .z fun m => okm m ∧ okm' m) := pe_binD op_pow (ints_ok (fun i j h => by simpa [bPow, CPow] using h) fun _ _ _ _ _ => .int _) ha hb
theorem pe_eqD (hu : X.A.units + 64 < cLine) (ha : PE X a (tE G W pv f k1 okm)) (hb : PE X b (tE G W pv f' k2 okm')) : PE X (.Compare a [.Eq] [b] pos) (tE G W pv (fin2 f f' (gEq false)) .z fun m => okm m ∧ okm' m) := pe_cmpD (op_eq.or (op_eqD hu)) eq_ok ha hb (by unfold behindInMarks; cases b <;> simp <;> rfl)
theorem pe_neD (hu : X.A.units + 64 < cLine) (ha : PE X a (tE G W pv f k1 okm)) (hb : PE X b (tE G W pv f' k2 okm')) : PE X (.Compare a [.NotEq] [b] pos) (tE G W pv (fin2 f f' (gEq true)) .z fun m => okm m ∧ okm' m) := pe_cmpD (op_ne.or (op_neD hu)) ne_ok ha hb (by unfold behindInMarks; cases b <;> simp <;> rfl)
theorem pt_eqD (hu : X.A.units + 64 < cLine) (ha : PE X a (tE G W pv f k1 okm)) (hb : PE X b (tE G W pv f' k2 okm')) : PT X (.Compare a [.Eq] [b] pos) (tTst G W pv (fin2 f f' (gEq false)) fun m => okm m ∧ okm' m) := pt_cmpD (op_eq.or (op_eqD hu)) eq_ok ha hb (by unfold behindInMarks; cases b <;> simp <;> rfl)
theorem pt_neD (hu : X.A.units + 64 < cLine) (ha : PE X a (tE G W pv f k1 okm)) (hb : PE X b (tE G W pv f' k2 okm')) : PT X (.Compare a [.NotEq] [b] pos) (tTst G W pv (fin2 f f' (gEq true)) fun m => okm m ∧ okm' m) := pt_cmpD (op_ne.or (op_neD hu)) ne_ok ha hb (by unfold behindInMarks; cases b <;> simp <;> rfl)
abbrev gLt : Store → D → D → Option D := gII (fun _ _ => true) fun i j => .bl (decide (i < j))
abbrev gLe : Store → D → D → Option D := gII (fun _ _ => true) fun i j => .bl (decide (i ≤ j))
abbrev gGt : Store → D → D → Option D := gII (fun _ _ => true) fun i j => .bl (decide (j < i))
abbrev gGe : Store → D → D → Option D := gII (fun _ _ => true) fun i j => .bl (decide (j ≤ i))
theorem pe_ltD (ha : PE X a (tE G W pv f k1 okm)) (hb : PE X b (tE G W pv f' k2 okm')) : PE X (.Compare a [.Lt] [b] pos) (tE G W pv (fin2 f f' gLt) .z fun m => okm m ∧ okm' m) := pe_cmpD op_lt (ints_ok0 fun _ _ _ _ _ => .bl _) ha hb (by unfold behindInMarks; cases b <;> simp <;> rfl)
theorem pt_ltD (ha : PE X a (tE G W pv f k1 okm)) (hb : PE X b (tE G W pv f' k2 okm')) : PT X (.Compare a [.Lt] [b] pos) (tTst G W pv (fin2 f f' gLt) fun m => okm m ∧ okm' m) := pt_cmpD op_lt (ints_ok0 fun _ _ _ _ _ => .bl _) ha hb (by unfold behindInMarks; cases b <;> simp <;> rfl)
theorem pe_leD (ha : PE X a (tE G W pv f k1 okm)) (hb : PE X b (tE G W pv f' k2 okm')) : PE X (.Compare a [.LtE] [b] pos) (tE G W pv (fin2 f f' gLe) .z fun m => okm m ∧ okm' m) := pe_cmpD op_le (ints_ok0 fun _ _ _ _ _ => .bl _) ha hb (by unfold behindInMarks; cases b <;> simp <;> rfl)
theorem pt_leD (ha : PE X a (tE G W pv f k1 okm)) (hb : PE X b (tE G W pv f' k2 okm')) : PT X (.Compare a [.LtE] [b] pos) (tTst G W pv (fin2 f f' gLe) fun m => okm m ∧ okm' m) := pt_cmpD op_le (ints_ok0 fun _ _ _ _ _ => .bl _) ha hb (by unfold behindInMarks; cases b <;> simp <;> rfl)
theorem pe_gtD (ha : PE X a (tE G W pv f k1 okm)) (hb : PE X b (tE G W pv f' k2 okm')) : PE X (.Compare a [.Gt] [b] pos) (tE G W pv (fin2 f f' gGt) .z fun m => okm m ∧ okm' m) := pe_cmpD op_gt (ints_ok0 fun _ _ _ _ _ => .bl _) ha hb (by unfold behindInMarks; cases b <;> simp <;> rfl)
theorem pt_gtD (ha : PE X a (tE G W pv f k1 okm)) (hb : PE X b (tE G W pv f' k2 okm')) : PT X (.Compare a [.Gt] [b] pos) (tTst G W pv (fin2 f f' gGt) fun m => okm m ∧ okm' m) := pt_cmpD op_gt (ints_ok0 fun _ _ _ _ _ => .bl _) ha hb (by unfold behindInMarks; cases b <;> simp <;> rfl)
theorem pe_geD (ha : PE X a (tE G W pv f k1 okm)) (hb : PE X b (tE G W pv f' k2 okm')) : PE X (.Compare a [.GtE] [b] pos) (tE G W pv (fin2 f f' gGe) .z fun m => okm m ∧ okm' m) := pe_cmpD op_ge (ints_ok0 fun _ _ _ _ _ => .bl _) ha hb (by unfold behindInMarks; cases b <;> simp <;> rfl)
theorem pt_geD (ha : PE X a (tE G W pv f k1 okm)) (hb : PE X b (tE G W pv f' k2 okm')) : PT X (.Compare a [.GtE] [b] pos) (tTst G W pv (fin2 f f' gGe) fun m => okm m ∧ okm' m) := pt_cmpD op_ge (ints_ok0 fun _ _ _ _ _ => .bl _) ha hb (by unfold behindInMarks; cases b <;> simp <;> rfl)
theorem pe_inD (hm : behindInMarks .In b = false) (hu : X.A.units + 65 < cLine) (ha : PE X a (tE G W pv f k1 okm)) (hb : PE X b (tE G W pv f' k2 okm')) : PE X (.Compare a [.In] [b] pos) (tE G W pv (fin2 f f' (gIn false)) .z fun m => okm m ∧ okm' m) := pe_cmpD (op_inA hu) (in_ok false) ha hb hm
theorem pt_inD (hm : behindInMarks .In b = false) (hu : X.A.units + 65 < cLine) (ha : PE X a (tE G W pv f k1 okm)) (hb : PE X b (tE G W pv f' k2 okm')) : PT X (.Compare a [.In] [b] pos) (tTst G W pv (fin2 f f' (gIn false)) fun m => okm m ∧ okm' m) := pt_cmpD (op_inA hu) (in_ok false) ha hb hm
theorem pe_notInD (hm : behindInMarks .NotIn b = false) (hu : X.A.units + 65 < cLine) (ha : PE X a (tE G W pv f k1 okm)) (hb : PE X b (tE G W pv f' k2 okm')) : PE X (.Compare a [.NotIn] [b] pos) (tE G W pv (fin2 f f' (gIn true)) .z fun m => okm m ∧ okm' m) := pe_cmpD (op_notInA hu) (in_ok true) ha hb hm
theorem pt_notInD (hm : behindInMarks .NotIn b = false) (hu : X.A.units + 65 < cLine) (ha : PE X a (tE G W pv f k1 okm)) (hb : PE X b (tE G W pv f' k2 okm')) : PT X (.Compare a [.NotIn] [b] pos) (tTst G W pv (fin2 f f' (gIn true)) fun m => okm m ∧ okm' m) := pt_cmpD (op_notInA hu) (in_ok true) ha hb hm
theorem pe_isND (ha : PE X a (tE G W pv f k1 okm)) (hb : PE X b (tE G W pv f' k2 okm')) : PE X (.Compare a [.Is] [b] pos) (tE G W pv (fin2 f f' (gIsN false)) .z fun m => okm m ∧ okm' m) := pe_cmpD op_isN isN_ok ha hb (by unfold behindInMarks; cases b <;> simp <;> rfl)
theorem pt_isND (ha : PE X a (tE G W pv f k1 okm)) (hb : PE X b (tE G W pv f' k2 okm')) : PT X (.Compare a [.Is] [b] pos) (tTst G W pv (fin2 f f' (gIsN false)) fun m => okm m ∧ okm' m) := pt_cmpD op_isN isN_ok ha hb (by unfold behindInMarks; cases b <;> simp <;> rfl)
theorem pe_notND (ha : PE X a (tE G W pv f k1 okm)) (hb : PE X b (tE G W pv f' k2 okm')) : PE X (.Compare a [.IsNot] [b] pos) (tE G W pv (fin2 f f' (gIsN true)) .z fun m => okm m ∧ okm' m) := pe_cmpD op_notN notN_ok ha hb (by unfold behindInMarks; cases b <;> simp <;> rfl)
theorem pt_notND (ha : PE X a (tE G W pv f k1 okm)) (hb : PE X b (tE G W pv f' k2 okm')) : PT X (.Compare a [.IsNot] [b] pos) (tTst G W pv (fin2 f f' (gIsN true)) fun m => okm m ∧ okm' m) := pt_cmpD op_notN notN_ok ha hb (by unfold behindInMarks; cases b <;> simp <;> rfl)
theorem pt_isInst {e : Expr} {f : Dl → Store → Res} {k : Kd} {okm : List Md → Prop} (h : PE X e (tE G W pv f k okm)) (he : ∀ whole, isTrue e X.env whole = (do let v ← whole; standAt e.pos; holding [v] (truthy v))) : PT X e (tTst G W pv f okm) := pt_valD h he
theorem pt_notD {f : Dl → Store → Res} {okm : List Md → Prop} (h : PT X a (tTst G W pv f okm)) : PT X (.UnaryOp .Not a pos) (tTst G W pv (fin1 f gNot) okm) := (pt_not h).impD fun σ H Q q => not_tT q
theorem pw_and1D {f : Dl → Store → Res} {okm : List Md → Prop} (h : PT X a (tTst G W pv f okm)) : PW X (.BoolOp .And [a] pos) (tTst G W pv f okm) := pw_and1 h
theorem pw_or1D {f : Dl → Store → Res} {okm : List Md → Prop} (h : PT X a (tTst G W pv f okm)) : PW X (.BoolOp .Or [a] pos) (tTst G W pv f okm) := pw_or1 h
theorem pw_andD {rest : List Expr} {f g : Dl → Store → Res} {okm okm' : List Md → Prop} (h : PT X a (tTst G W pv f okm)) (h' : PW X (.BoolOp .And (b :: rest) pos) (tTst G W pv g okm')) : PW X (.BoolOp .And (a :: b :: rest) pos) (tTst G W pv (fAnd f g) fun m => okm m ∧ okm' m) := (pw_and h h').impD fun σ H Q q => and_tT q
theorem pw_orD {rest : List Expr} {f g : Dl → Store → Res} {okm okm' : List Md → Prop} (h : PT X a (tTst G W pv f okm)) (h' : PW X (.BoolOp .Or (b :: rest) pos) (tTst G W pv g okm')) : PW X (.BoolOp .Or (a :: b :: rest) pos) (tTst G W pv (fOr f g) fun m => okm m ∧ okm' m) := (pw_or h h').impD fun σ H Q q => or_tT q
theorem pe_ixAD (hu : X.A.units + 64 < cLine) (hs : PlainIx b) (ha : PE X a (tE G W pv f k1 okm)) (hb : PE X b (tE G W pv f' k2 okm')) : PE X (.Subscript a b pos) (tE G W pv (fin2 f f' gIx) .z fun m => okm m ∧ okm' m) := pe_ixD (ix_seq.or (ix_dict (by omega))) ix_ok ha hb hs
theorem pe_negD (ha : PE X a (tE G W pv f k1 okm)) : PE X (.UnaryOp .USub a pos) (tE G W pv (fin1 f gNeg) .z okm) := pe_unD un_neg neg_ok ha
theorem pe_lenD {fa : Dl → Store → Ress} {st : Bool} {p : Pos} (hg : Gl X "len") (hm : X.mg "len" = none) (ha : PA X [a] (tAs G W pv fa st okm)) (he : starEach [a] X.env = (false, eval a X.env) :: starEach [] X.env) (hpl : (backTo pos (starEach [] X.env)).any (·.1) = false) : PE X (.Call (.Name "len" p) [a] [] pos) (tE G W pv (finN fa gLen) .z okm) := pe_blD call_lenA len_ok hg hm (by first | exact PyProof.Rows.boot_len | exact PyProof.Rows.Boot.«len» | decide +kernel) ha (by decide) (by decide) he hpl
theorem pe_listD {fa : Dl → Store → Ress} {st : Bool} {p : Pos} (hc : X.calm = true) (hq : ∀ (a : Addr) (ns : List Int) (H : Hp), G.gv.q a ns → SqL X.K H a (ns.map V.int)) (hg : Gl X "list") (hm : X.mg "list" = none) (ha : PA X [a] (tAs G W pv fa st okm)) (he : starEach [a] X.env = (false, eval a X.env) :: starEach [] X.env) (hpl : (backTo pos (starEach [] X.env)).any (·.1) = false) : PE X (.Call (.Name "list" p) [a] [] pos) (tE G W pv (finN fa gList) .o okm) := pe_tyD (call_listA hc) (list_ok hq) hg hm (by first | exact PyProof.Rows.boot_list | exact PyProof.Rows.Boot.«list» | decide +kernel) ha (by decide) (by decide) he hpl
theorem pe_tupleD {fa : Dl → Store → Ress} {st : Bool} {p : Pos} (hg : Gl X "tuple") (hm : X.mg "tuple" = none) (ha : PA X [a] (tAs G W pv fa st okm)) (he : starEach [a] X.env = (false, eval a X.env) :: starEach [] X.env) (hpl : (backTo pos (starEach [] X.env)).any (·.1) = false) : PE X (.Call (.Name "tuple" p) [a] [] pos) (tE G W pv (finN fa gTuple) .z okm) := pe_tyD call_tuple_of tuple_ok hg hm (by first | exact PyProof.Rows.boot_tuple | exact PyProof.Rows.Boot.«tuple» | decide +kernel) ha (by decide) (by decide) he hpl
theorem pe_max2D {fa : Dl → Store → Ress} {st : Bool} {p : Pos} (hc : X.calm = true) (hg : Gl X "max") (hm : X.mg "max" = none) (ha : PA X [a, b] (tAs G W pv fa st okm)) (he : starEach [a, b] X.env = (false, eval a X.env) :: starEach [b] X.env) (hpl : (backTo pos (starEach [b] X.env)).any (·.1) = false) : PE X (.Call (.Name "max" p) [a, b] [] pos) (tE G W pv (finN fa gMax2) .z okm) := pe_blD (call_max2 hc) max2_ok hg hm (by first | exact PyProof.Rows.boot_max | exact PyProof.Rows.Boot.«max» | decide +kernel) ha (by decide) (by decide) he hpl
theorem pe_min2D {fa : Dl → Store → Ress} {st : Bool} {p : Pos} (hc : X.calm = true) (hg : Gl X "min") (hm : X.mg "min" = none) (ha : PA X [a, b] (tAs G W pv fa st okm)) (he : starEach [a, b] X.env = (false, eval a X.env) :: starEach [b] X.env) (hpl : (backTo pos (starEach [b] X.env)).any (·.1) = false) : PE X (.Call (.Name "min" p) [a, b] [] pos) (tE G W pv (finN fa gMin2) .z okm) := pe_blD (call_min2 hc) min2_ok hg hm (by first | exact PyProof.Rows.boot_min | exact PyProof.Rows.Boot.«min» | decide +kernel) ha (by decide) (by decide) he hpl
theorem pe_allD {fa : Dl → Store → Ress} {st : Bool} {p : Pos} (hc : X.calm = true) (hg : Gl X "all") (hm : X.mg "all" = none) (ha : PA X [a] (tAs G W pv fa st okm)) (he : starEach [a] X.env = (false, eval a X.env) :: starEach [] X.env) (hpl : (backTo pos (starEach [] X.env)).any (·.1) = false) : PE X (.Call (.Name "all" p) [a] [] pos) (tE G W pv (finN fa (gBools fun bs => .bl (bs.all id))) .z okm) := pe_blD (cr_all hc) all_ok hg hm (by first | exact PyProof.Rows.boot_all | exact PyProof.Rows.Boot.«all» | decide +kernel) ha (by decide) (by decide) he hpl
theorem pe_anyD {fa : Dl → Store → Ress} {st : Bool} {p : Pos} (hc : X.calm = true) (hg : Gl X "any") (hm : X.mg "any" = none) (ha : PA X [a] (tAs G W pv fa st okm)) (he : starEach [a] X.env = (false, eval a X.env) :: starEach [] X.env) (hpl : (backTo pos (starEach [] X.env)).any (·.1) = false) : PE X (.Call (.Name "any" p) [a] [] pos) (tE G W pv (finN fa (gBools fun bs => .bl (bs.any id))) .z okm) := pe_blD (cr_any hc) any_ok hg hm (by first | exact PyProof.Rows.boot_any | exact PyProof.Rows.Boot.«any» | decide +kernel) ha (by decide) (by decide) he hpl
theorem pe_sumD {fa : Dl → Store → Ress} {st : Bool} {p : Pos} (hc : X.calm = true) (hg : Gl X "sum") (hm : X.mg "sum" = none) (ha : PA X [a] (tAs G W pv fa st okm)) (he : starEach [a] X.env = (false, eval a X.env) :: starEach [] X.env) (hpl : (backTo pos (starEach [] X.env)).any (·.1) = false) : PE X (.Call (.Name "sum" p) [a] [] pos) (tE G W pv (finN fa (gInts fun ns => some (.int ns.sum))) .z okm) := pe_blD (cr_sum hc) sum_ok hg hm (by first | exact PyProof.Rows.boot_sum | exact PyProof.Rows.Boot.«sum» | decide +kernel) ha (by decide) (by decide) he hpl
theorem pe_maxlD {fa : Dl → Store → Ress} {st : Bool} {p : Pos} (hc : X.calm = true) (hg : Gl X "max") (hm : X.mg "max" = none) (ha : PA X [a] (tAs G W pv fa st okm)) (he : starEach [a] X.env = (false, eval a X.env) :: starEach [] X.env) (hpl : (backTo pos (starEach [] X.env)).any (·.1) = false) : PE X (.Call (.Name "max" p) [a] [] pos) (tE G W pv (finN fa (gInts gMaxL)) .z okm) := pe_blD (cr_max hc) maxl_ok hg hm (by first | exact PyProof.Rows.boot_max | exact PyProof.Rows.Boot.«max» | decide +kernel) ha (by decide) (by decide) he hpl
theorem pe_minlD {fa : Dl → Store → Ress} {st : Bool} {p : Pos} (hc : X.calm = true) (hg : Gl X "min") (hm : X.mg "min" = none) (ha : PA X [a] (tAs G W pv fa st okm)) (he : starEach [a] X.env = (false, eval a X.env) :: starEach [] X.env) (hpl : (backTo pos (starEach [] X.env)).any (·.1) = false) : PE X (.Call (.Name "min" p) [a] [] pos) (tE G W pv (finN fa (gInts gMinL)) .z okm) := pe_blD (cr_min hc) minl_ok hg hm (by first | exact PyProof.Rows.boot_min | exact PyProof.Rows.Boot.«min» | decide +kernel) ha (by decide) (by decide) he hpl
theorem pe_absD {fa : Dl → Store → Ress} {st : Bool} {p : Pos} (hg : Gl X "abs") (hm : X.mg "abs" = none) (ha : PA X [a] (tAs G W pv fa st okm)) (he : starEach [a] X.env = (false, eval a X.env) :: starEach [] X.env) (hpl : (backTo pos (starEach [] X.env)).any (·.1) = false) : PE X (.Call (.Name "abs" p) [a] [] pos) (tE G W pv (finN fa gAbs) .z okm) := pe_blD call_abs abs_ok hg hm (by first | exact PyProof.Rows.boot_abs | exact PyProof.Rows.Boot.«abs» | decide +kernel) ha (by decide) (by decide) he hpl
theorem pe_intCD {fa : Dl → Store → Ress} {st : Bool} {p : Pos} (hg : Gl X "int") (hm : X.mg "int" = none) (ha : PA X [a] (tAs G W pv fa st okm)) (he : starEach [a] X.env = (false, eval a X.env) :: starEach [] X.env) (hpl : (backTo pos (starEach [] X.env)).any (·.1) = false) : PE X (.Call (.Name "int" p) [a] [] pos) (tE G W pv (finN fa gInt1) .z okm) := pe_tyD call_int1 int1_ok hg hm (by first | exact PyProof.Rows.boot_int | exact PyProof.Rows.Boot.«int» | decide +kernel) ha (by decide) (by decide) he hpl
theorem pe_strCD {fa : Dl → Store → Ress} {st : Bool} {p : Pos} (hg : Gl X "str") (hm : X.mg "str" = none) (ha : PA X [a] (tAs G W pv fa st okm)) (he : starEach [a] X.env = (false, eval a X.env) :: starEach [] X.env) (hpl : (backTo pos (starEach [] X.env)).any (·.1) = false) : PE X (.Call (.Name "str" p) [a] [] pos) (tE G W pv (finN fa gStr1) .z okm) := pe_tyD call_str_int str1_ok hg hm (by first | exact PyProof.Rows.boot_str | exact PyProof.Rows.Boot.«str» | decide +kernel) ha (by decide) (by decide) he hpl
theorem pe_slLD {lo hi : Option Expr} {p2 : Pos} {fl fh : Option (Dl → Store → Res)} {okl okh : List Md → Prop} (ha : PE X a (tE G W pv f k1 okm)) (hl : PO X lo (tPO G W pv fl okl)) (hu : PO X hi (tPO G W pv fh okh)) : PE X (.Subscript a (.Slice lo hi none p2) pos) (tE G W pv (fSl f fl fh gSlL) .o fun m => okm m ∧ okl m ∧ okh m) := pe_slD sl_list sll_ok ha hl hu
theorem pe_slTD {lo hi : Option Expr} {p2 : Pos} {fl fh : Option (Dl → Store → Res)} {okl okh : List Md → Prop} (ha : PE X a (tE G W pv f k1 okm)) (hl : PO X lo (tPO G W pv fl okl)) (hu : PO X hi (tPO G W pv fh okh)) : PE X (.Subscript a (.Slice lo hi none p2) pos) (tE G W pv (fSl f fl fh gSlT) .z fun m => okm m ∧ okl m ∧ okh m) := pe_slD ((sl_tupA.or sl_str).or sl_list) slt_ok ha hl hu
end
end VI
end

section
set_option Elab.async false
set_option linter.all false
set_option autoImplicit false
set_option maxRecDepth 100000
/-! VI, 17: methods of lists -/
namespace VI
open PySem PySem.Spec L2
section
variable {G : Gc} {W : WX} {pv : Bool} {X : Cx} {o e : Expr} {fo f : Dl → Store → Res} {fa : Dl → Store → Ress} {k k1 : Kd} {oko okm : List Md → Prop} {ap cp : Pos}
theorem pe_cappD (hpv : pv = false) (hlk : ∀ a, ¬ G.gv.lk a) (ho : PE X o (tE G W pv fo k oko)) (ha : PA X [e] (tAs G W pv fa true okm)) (hb : attributeBase o "append" X.env (eval o X.env) = eval o X.env)
    (hf : ((backTo cp (starEach [e] X.env)).all (fun x => !x.1) && (backToKw cp (keywordEach [] X.env)).all (fun x => x.1.isSome) && decide ([e].length + ([] : List Keyword).length + (if ([] : List Keyword).isEmpty then 0 else 1) < 30)) = true) (hl : (ap.endLine == cp.line) = true) (hs : starEach [e] X.env = (false, eval e X.env) :: starEach [] X.env) :
    PE X (.Call (.Attribute o "append" ap) [e] [] cp) (tE G W pv (fCm fo fa mApp) .z fun m => oko m ∧ okm m) := (pe_bm PySem.F.plainAttrs_list PySem.F.slot_list_append PySem.F.type_list_append mt_append ho ha hb hf hl hs rfl).impD fun σ H Q q => cell_tM hpv hlk app_ok q
theorem pe_cpopAtD (hpv : pv = false) (hlk : ∀ a, ¬ G.gv.lk a) (ho : PE X o (tE G W pv fo k oko)) (ha : PA X [e] (tAs G W pv fa true okm)) (hb : attributeBase o "pop" X.env (eval o X.env) = eval o X.env)
    (hf : ((backTo cp (starEach [e] X.env)).all (fun x => !x.1) && (backToKw cp (keywordEach [] X.env)).all (fun x => x.1.isSome) && decide ([e].length + ([] : List Keyword).length + (if ([] : List Keyword).isEmpty then 0 else 1) < 30)) = true) (hl : (ap.endLine == cp.line) = true) (hs : starEach [e] X.env = (false, eval e X.env) :: starEach [] X.env) :
    PE X (.Call (.Attribute o "pop" ap) [e] [] cp) (tE G W pv (fCm fo fa mPopAt) .z fun m => oko m ∧ okm m) := (pe_bm PySem.F.plainAttrs_list PySem.F.slot_list_pop PySem.F.type_list_pop mt_popAt ho ha hb hf hl hs rfl).impD fun σ H Q q => cell_tM hpv hlk popAt_ok q
section
variable {rk : Kd} {m : List Md} {i : Nat} {x : Str} {p pos : Pos}
theorem ps_extD (hN : X.N[i]? = some x) (hv : Vis X.env.scope x) (hd : (x == ("__debug__" : Str)) = false) (hcd : (x == ("__classdict__" : Str)) = false) (hi : m[i]? = some .o) (hok : okm m) (ha : PA X [e] (tAs G W pv fa true okm)) (hb : attributeBase (.Name x p) "extend" X.env (eval (.Name x p) X.env) = eval (.Name x p) X.env)
    (hf : ((backTo cp (starEach [e] X.env)).all (fun x => !x.1) && (backToKw cp (keywordEach [] X.env)).all (fun x => x.1.isSome) && decide ([e].length + ([] : List Keyword).length + (if ([] : List Keyword).isEmpty then 0 else 1) < 30)) = true) (hl : (ap.endLine == cp.line) = true) (hs : starEach [e] X.env = (false, eval e X.env) :: starEach [] X.env) (hsw : swapsWith (.Call (.Attribute (.Name x p) "extend" ap) [e] [] cp) none pos.line X.env = pure false) :
    PS X (.Expr (.Call (.Attribute (.Name x p) "extend" ap) [e] [] cp) pos) (tS G W pv rk (sM i fa mExt fun _ δ S => .nx δ S) m m) :=
  ps_mD hi hok (pe_bm PySem.F.plainAttrs_list PySem.F.slot_list_extend PySem.F.type_list_extend mt_extend (pe_var hN hv hd hcd) ha hb hf hl hs rfl) (fun σ H Q q => own_tM ext_ok q) hsw
theorem ps_appD (hN : X.N[i]? = some x) (hv : Vis X.env.scope x) (hd : (x == ("__debug__" : Str)) = false) (hcd : (x == ("__classdict__" : Str)) = false) (hi : m[i]? = some .o) (hok : okm m) (ha : PA X [e] (tAs G W pv fa true okm)) (hb : attributeBase (.Name x p) "append" X.env (eval (.Name x p) X.env) = eval (.Name x p) X.env)
    (hf : ((backTo cp (starEach [e] X.env)).all (fun x => !x.1) && (backToKw cp (keywordEach [] X.env)).all (fun x => x.1.isSome) && decide ([e].length + ([] : List Keyword).length + (if ([] : List Keyword).isEmpty then 0 else 1) < 30)) = true) (hl : (ap.endLine == cp.line) = true) (hs : starEach [e] X.env = (false, eval e X.env) :: starEach [] X.env) (hsw : swapsWith (.Call (.Attribute (.Name x p) "append" ap) [e] [] cp) none pos.line X.env = pure false) :
    PS X (.Expr (.Call (.Attribute (.Name x p) "append" ap) [e] [] cp) pos) (tS G W pv rk (sM i fa mApp fun _ δ S => .nx δ S) m m) :=
  ps_mD hi hok (pe_bm PySem.F.plainAttrs_list PySem.F.slot_list_append PySem.F.type_list_append mt_append (pe_var hN hv hd hcd) ha hb hf hl hs rfl) (fun σ H Q q => own_tM app_ok q) hsw
end
end
/-- at the level k every def keeps its promise -/
def Good (T : Tb) (P : Program) (w : World) (K : PySem.W.Frag) (mg : Str → Option Value) (base : Heap) (G : Gc) (k : Nat) (rn : Nat → List VI.D → Store → Res) : Prop :=
  ∀ (j : Nat) (f : Addr) (fd : FuncData), T.D j K f fd → (e : f = He.ga K (T.nm j) := by rfl) → FnOk P w K mg base (L2.CX P w) k f fd (T.ps j) (spD G (T.ps j).length (T.rk j) (T.pu j) (rn j))
theorem good0 {T : Tb} {P : Program} {w : World} {K : PySem.W.Frag} {mg : Str → Option Value} {base : Heap} {G : Gc} {k : Nat} : Good T P w K mg base G k fun _ _ _ => .st :=
  fun j f fd F e => ⟨fun vs H Q E h => h.1, fun A outer s H args us vs Q E _ _ _ _ h => by obtain ⟨_, _, _, _, _, _, _, _, _, q⟩ := h; exact q.elim⟩
/-- the meaning of the defs, n deep -/
def runT (T : Tb) (body : (Nat → List VI.D → Store → Res) → Nat → Dl → Store → SRes) : Nat → Nat → List VI.D → Store → Res
  | 0 => fun _ _ _ => .st
  | n + 1 => fun j => runD (T.N j).length (T.rk j) (body (runT T body n) j)
/-- an __init__(self, x): self.f = x -/
theorem okIni {P : Program} {w : World} {K : PySem.W.Frag} {mg : Str → Option Value} {base : Heap} {CX : CXT} {k : Nat} {qual : Str} {params : Arguments} {scope : Scope} {p0 p1 fl : Str} {fI : Addr} {fd : FuncData} {a1 a2 a3 a4 : Pos} (F : FunD K "__init__" qual params [.Assign [.Attribute (.Name p0 a1) fl a2] (.Name p1 a3) a4] scope [] [] fI fd)
    (S : FnScope [p0, p1] [p0, p1] scope) (h0 : scope.names.lookup p0 = some .local) (h1 : scope.names.lookup p1 = some .local) (d0 : (p0 == ("__debug__" : Str)) = false) (d1 : (p1 == ("__debug__" : Str)) = false) (e0 : (p0 == ("__classdict__" : Str)) = false) (e1 : (p1 == ("__classdict__" : Str)) = false) :
    FnOk P w K mg base CX (k + 1) fI fd [p0, p1] (spIni K fl) :=
  F.ok S (fun vs H Q E h => by obtain ⟨a, C, v, rfl, _⟩ := h; rfl) fun cdv A outer s H vs Q E hr h => ⟨tIni K fl, pss_one (ps_ost (pe_var (i := 0) rfl (.inl h0) d0 e0) (pe_var (i := 1) rfl (.inl h1) d1 e1) rfl), ini_pure vs H Q E h⟩
end VI
end

section
set_option Elab.async false
set_option linter.all false
set_option autoImplicit false
set_option maxRecDepth 100000
/-! VI, 18: what the written part says, by tables -/
namespace VI
open PySem PySem.Spec L2
open He (ga ma)
theorem oex_of {K : PySem.W.Frag} {C : Addr} (h : oexB K C = true) (sa : PySem.W.findIn K (.ref C) "__setattr__" = some (some (.builtin "object.__setattr__"))) (exC : PySem.W.subIn K (.ref C) (.type "BaseException") = some true) (tyC : PySem.W.typeIn K (.ref C) = some (.type "type")) (kC : PySem.W.keepIn K (.ref C) = true) : OexC K C := by
  refine ⟨?_, sa, exC, tyC, kC⟩
  unfold oexB at h
  split at h
  · rename_i t dd cd sl ho
    split at h
    · rename_i C' bm k0 k1 k2 k3 n k5 hm hs
      simp only [Bool.and_eq_true, decide_eq_true_eq, Bool.not_eq_true'] at h
      obtain ⟨rfl, rfl, rfl, hdel, hdct, hv⟩ := h
      obtain ⟨nm, bs, mro, ns, qn, hd, sn, sub, ab, col, del⟩ := cd
      dsimp only at hm hdel hdct
      subst hm hdel hdct
      have hsl : sl = #[k0, k1, k2, k3, some (.builtin "ValueError.__new__"), k5] := by
        obtain ⟨l⟩ := sl
        simp only at hs
        rw [hs]
      subst hsl
      exact ⟨nm, qn, ns, bs, bm, sn, sub, ab, col, dd, k0, k1, k2, k3, k5, ho, hv⟩
    · cases h
  · cases h
structure Cs (T : Tb) (C : ClT) (nd nc : Nat) (free : List Str) (K : PySem.W.Frag) (mg : Str → Option Value) : Prop where
  df : ∀ j, j < nd → ∃ fd, T.D j K (ga K (T.nm j)) fd
  gl : ∀ j, j < nd → mg (T.nm j) = some (.ref (ga K (T.nm j)))
  fr : ∀ x ∈ free, mg x = none
  cg : ∀ j, j < nc → mg (C.nm j) = some (.ref (ga K (C.nm j)))
  cb : ∀ j, j < nc → clsB K (ga K (C.nm 0)) (ga K (C.nm j)) (C.fl j) = true
  ci : ∀ j, j < nc → C.fl j ≠ [] → ∃ fd, C.D j K (ma K (ga K (C.nm j)) "__init__") fd
  nd : ((List.range nc).map fun j => ga K (C.nm j)).Nodup
structure Gx (C : ClT) (nc : Nat) (K : PySem.W.Frag) (gv : Gv) : Prop where
  x : ∀ j, gv.x j = if j < nc then some (ga K (C.nm j), C.fl j) else none
  hq : ∀ (a : Addr) (ns : List Int) (H : Hp), gv.q a ns → SqL K H a (ns.map V.int)
section
variable {T : Tb} {C : ClT} {nd nc : Nat} {free : List Str} {K : PySem.W.Frag} {mg : Str → Option Value} (c : Cs T C nd nc free K mg)
include c
theorem Cs.cls {j : Nat} (h : j < nc) : (PySem.W.clsIn K (ga K (C.nm j))).map (·.mro) = some (mroL K (ga K (C.nm 0)) (ga K (C.nm j))) ∧ XcC K (ga K (C.nm j)) ∧ PySem.W.typeIn K (.ref (ga K (C.nm j))) = some (.type "type") ∧ PySem.W.keepIn K (.ref (ga K (C.nm j))) = true := by
  have h1 := c.cb j h
  unfold clsB at h1
  simp only [Bool.and_eq_true, decide_eq_true_eq] at h1
  exact ⟨h1.1, xcB_ok h1.2.1, h1.2.2.1, h1.2.2.2.1⟩
theorem Cs.exi {j : Nat} (h : j < nc) (e : C.fl j = []) : PySem.W.excIn K (ga K (C.nm j)) He.veBase "ValueError.__new__" = true := by
  have h1 := c.cb j h
  unfold clsB at h1
  simp only [Bool.and_eq_true, decide_eq_true_eq] at h1
  have h2 := h1.2.2.2.2
  rw [e] at h2
  exact h2
theorem Cs.oex {j : Nat} {f : Str} (h : j < nc) (e : C.fl j = [f]) : OexC K (ga K (C.nm j)) ∧ PySem.W.findIn K (.ref (ga K (C.nm j))) "__init__" = some (some (.ref (ma K (ga K (C.nm j)) "__init__"))) ∧ PySem.W.typeIn K (.ref (ma K (ga K (C.nm j)) "__init__")) = some (.type "function") ∧ PySem.W.findIn K (.ref (ga K (C.nm j))) f = some none := by
  obtain ⟨_, xc, ty, kp⟩ := c.cls h
  have h1 := c.cb j h
  unfold clsB at h1
  simp only [Bool.and_eq_true, decide_eq_true_eq] at h1
  have h2 := h1.2.2.2.2
  rw [e] at h2
  simp only [Bool.and_eq_true, decide_eq_true_eq] at h2
  obtain ⟨h3, h4, h5, h6, h7⟩ := h2
  exact ⟨oex_of h3 h4 xc.sb ty kp, h5, h6, h7⟩
omit c in
theorem mro_has {P A D : Addr} : (mroL K P A).contains (.ref D) = (decide (D = A) || decide (D = P)) := by
  have r1 : ∀ B, (Value.ref D == Value.ref B) = decide (D = B) := fun B => by
    by_cases e2 : D = B
    · subst e2; simp
    · have : (Value.ref D == Value.ref B) = false := by
        rw [beq_eq_false_iff_ne]; intro z; exact e2 (Value.ref.inj z)
      rw [this]; simp [e2]
  have r2 : ∀ t, (Value.ref D == Value.type t) = false := fun t => by
    rw [beq_eq_false_iff_ne]; intro z; cases z
  unfold mroL He.veBase
  by_cases e : A = P
  · rw [if_pos e, e]
    simp only [List.nil_append, List.contains_cons, r1, r2, List.contains_nil, Bool.or_false, Bool.or_self]
  · rw [if_neg e]
    simp only [List.cons_append, List.nil_append, List.contains_cons, r1, r2, List.contains_nil, Bool.or_false]
omit c in
theorem mro_hasT {P A : Addr} {B : String} : (mroL K P A).contains (.type B) = He.veBase.contains (.type B) := by
  unfold mroL
  by_cases e : A = P
  · subst e
    simp only [if_pos rfl, List.nil_append, List.contains_cons]
    rfl
  · rw [if_neg e]
    simp only [List.cons_append, List.nil_append, List.contains_cons]
    rfl
theorem Cs.kit {gv : Gv} (g : Gx C nc K gv) {ve : Nat} {bx : List String} (h0 : 0 < nc) (hve : nc ≤ ve) (hbx : ∀ (i : Nat) (t : String), bx[i]? = some t → PySem.W.kitMeta t = true ∧ He.veBase.contains (.type t) = decide (nc + i = ve)) :
    KitOk K gv (fun j k => some (j == k || k == 0 || k == ve)) (fun k => if k < nc then some (.ref (ga K (C.nm k))) else (bx[k - nc]?).map V.ty) := by
  refine ⟨fun k v h => ?_, fun j k b A fs v u hk hx hc hu => ?_, fun j A fs hx => ?_⟩
  · split at h
    · cases h; exact ⟨_, .own _⟩
    · rw [Option.map_eq_some_iff] at h
      obtain ⟨t, _, rfl⟩ := h
      exact ⟨_, .ty t⟩
  · rw [g.x j] at hx
    split at hx
    case isFalse => cases hx
    rename_i hj
    cases hx
    cases hk
    obtain ⟨m1, xc, ty, kp⟩ := c.cls hj
    have msub : ∀ base : Value, PySem.W.subIn K (.ref (ga K (C.nm j))) base = some ((mroL K (ga K (C.nm 0)) (ga K (C.nm j))).contains base) := fun base => by
      unfold PySem.W.subIn PySem.W.mroIn
      rw [Option.map_eq_some_iff] at m1
      obtain ⟨cd, e1, e2⟩ := m1
      dsimp only
      rw [e1, Option.bind_some, e2]
      have : (mroL K (ga K (C.nm 0)) (ga K (C.nm j))).isEmpty = false := by unfold mroL; split <;> rfl
      rw [this]
      rfl
    split at hc
    · rename_i hk
      cases hc
      cases hu
      obtain ⟨m2, xc2, ty2, kp2⟩ := c.cls hk
      have inj : ∀ {a b : Nat}, a < nc → b < nc → ga K (C.nm a) = ga K (C.nm b) → a = b := fun {a b} ha hb e => by
        have n1 : ((List.range nc).map fun j => ga K (C.nm j))[a]? = ((List.range nc).map fun j => ga K (C.nm j))[b]? := by
          rw [List.getElem?_map, List.getElem?_map, List.getElem?_range ha, List.getElem?_range hb]
          exact congrArg some e
        have la : a < ((List.range nc).map fun j => ga K (C.nm j)).length := by simpa using ha
        have lb : b < ((List.range nc).map fun j => ga K (C.nm j)).length := by simpa using hb
        rw [List.getElem?_eq_getElem la, List.getElem?_eq_getElem lb] at n1
        exact (List.getElem_inj c.nd).mp (Option.some.inj n1)
      unfold PySem.W.kitOne
      by_cases e : j = k
      · subst e
        simp
      · have ne : ga K (C.nm j) ≠ ga K (C.nm k) := fun z => e (inj hj hk z)
        have hb : (Value.ref (ga K (C.nm j)) == Value.ref (ga K (C.nm k))) = false := by
          rw [beq_eq_false_iff_ne]; intro z; exact ne (Value.ref.inj z)
        rw [hb, if_neg Bool.false_ne_true]
        unfold PySem.W.kitCls
        dsimp only
        rw [xc2.cl, ty2]
        simp only [Bool.true_and, beq_self_eq_true, if_true]
        rw [msub, mro_has]
        have e1 : decide (ga K (C.nm k) = ga K (C.nm j)) = false := by simpa using Ne.symm ne
        have e2 : decide (ga K (C.nm k) = ga K (C.nm 0)) = decide (k = 0) := by
          by_cases z : k = 0
          · subst z; simp
          · have : ga K (C.nm k) ≠ ga K (C.nm 0) := fun q => z (inj hk h0 q)
            simp [z, this]
        have e3 : (k == ve) = false := by rw [beq_eq_false_iff_ne]; omega
        have e4 : (j == k) = false := by rw [beq_eq_false_iff_ne]; exact e
        rw [e1, e2, e3, e4]
        by_cases z : k = 0 <;> simp [z]
    · rename_i hk
      rw [Option.map_eq_some_iff] at hc
      obtain ⟨t, ht, rfl⟩ := hc
      cases hu
      obtain ⟨km, hc2⟩ := hbx _ t ht
      unfold PySem.W.kitOne
      have hb : (Value.ref (ga K (C.nm j)) == Value.type t) = false := by
        rw [beq_eq_false_iff_ne]; intro z; cases z
      rw [hb, if_neg Bool.false_ne_true]
      unfold PySem.W.kitCls
      dsimp only
      rw [if_pos km, msub, mro_hasT, hc2]
      have e4 : (j == k) = false := by rw [beq_eq_false_iff_ne]; omega
      have e5 : (k == 0) = false := by rw [beq_eq_false_iff_ne]; omega
      have e6 : nc + (k - nc) = k := by omega
      rw [e4, e5, e6]
      by_cases z : k = ve <;> simp [z]
  · rw [g.x j] at hx
    split at hx
    · rename_i hj
      cases hx
      exact (c.cls hj).2.1
    · cases hx
end
theorem Gx.L {C : ClT} {nc : Nat} {K : PySem.W.Frag} {G : Gc} (g : Gx C nc K G.gv) {lk : Addr → Prop} : Gx C nc K (G.L lk).gv := ⟨g.x, g.hq⟩
theorem Cs.fld {T : Tb} {C : ClT} {nd nc : Nat} {free : List Str} {K : PySem.W.Frag} {mg : Str → Option Value} {gv : Gv} (c : Cs T C nd nc free K mg) (g : Gx C nc K gv) {ok : List Nat} {f : Str} (h : ∀ j ∈ ok, j < nc ∧ C.fl j = [f]) :
    ∀ j ∈ ok, ∀ A fs, gv.x j = some (A, fs) → fs = [f] ∧ XcC K A ∧ PySem.W.findIn K (.ref A) f = some none := fun j hj A fs e => by
  obtain ⟨h1, h2⟩ := h j hj
  rw [g.x j, if_pos h1] at e
  cases e
  exact ⟨h2, (c.cls h1).2.1, (c.oex h1 h2).2.2.2⟩
theorem FunD.kb1 {K : PySem.W.Frag} {x qual : Str} {params : Arguments} {body : List Stmt} {scope : Scope} {f : Addr} {fd : FuncData} {p0 p1 : Str} (F : FunD K x qual params body scope [] [] f fd)
    (h : ∀ (kV doc pm : Value) (an : Option Addr) (cdv ct : Value) (e : Addr) (u : Value), bindArgs (PySem.W.fnOf x qual params body scope .none kV doc pm an cdv ct) ⟨[.ref e], [(p1, u)]⟩ = pure [(p0, .ref e), (p1, u)]) :
    ∀ (s : Shared) (e : Addr) (u : Value), K.In s.heap → BindsTo s fd ⟨[.ref e], [(p1, u)]⟩ ([p0, p1].zip [.ref e, u]) := fun s e u _ => by
  obtain ⟨oc, od, dV, kV, doc, pm, an, cdv, ct, osl, rfl, lk, hcd, hD, hK⟩ := F.ex
  rcases hD with ⟨_, rfl⟩ | ⟨e', _⟩
  · exact .of_eq (h kV doc pm an cdv ct e u)
  · exact absurd rfl e'
theorem _root_.L2.Room.units65 {k : Nat} {A : Around} (r : Room k A) : A.units + 65 < cLine := by have := r.un; omega
end VI
end

section
set_option Elab.async false
set_option linter.all false
set_option autoImplicit false
set_option maxRecDepth 100000
/-! VI, 19: the head's facts, of few objects -/
namespace VI
open PySem PySem.Spec L2 He
/-- nothing is let out -/
theorem noX {P : Program} {w : World} {K : PySem.W.Frag} {mg : Str → Option Value} {base : Heap} {k : Nat} {f : Addr} {fd : FuncData} {ps : List Str} {sp : Sp} (F : FnOk P w K mg base (L2.CX P w) k f fd ps sp) : FnOk P w K mg base CX0 k f fd ps (fun vs H Q _ => sp vs H Q E0) :=
  ⟨fun vs H Q E h => F.len vs H Q E0 h, fun A outer s H args us vs Q E hr e0 hb hv h => codeAny_mono (F.run A outer s H args us vs Q E0 hr e0 hb hv h) fun r s' hq => by
    cases r with
    | error e =>
      obtain ⟨_, _, _, _, _, _, _, _, _, _, _, _, z⟩ := hq
      exact z.elim
    | ok fl => cases fl <;> exact hq⟩
end VI
end

section
set_option Elab.async false
set_option linter.all false
set_option autoImplicit false
set_option maxRecDepth 100000
set_option maxHeartbeats 2000000
/-! VX, 2: an exception that is caught and then held as any other value -/
namespace VI
open PySem PySem.Spec L2
section
variable {X : Cx} {pins : List (Addr × Obj)} {σ : L2.St} {H : Hp} {s : Shared}
/-- an object that is new since the entry is tracked from now on -/
theorem inv_track {a : Addr} {o : HO} (I : Inv X pins σ H s) (hn : H a = none) (n0 : X.s_0.heap.get? a = none) (nL : a ≠ X.env.locals) (nC : ∀ x c, X.env.cells.lookup x = some c → c ≠ a) (np : ∀ p ∈ X.pn ++ pins, p.1 ≠ a)
    (new : ObjOk X.prog X.w (upd H a o) s.heap a o) : Inv X pins σ (upd H a o) s := by
  have far : ∀ (b : Addr) (u : Obj), X.s_0.heap.get? b = some u → upd H a o b = H b := fun b u q => upd_ne fun z => by
    subst z
    rw [n0] at q
    cases q
  have kp : ∀ (b : Addr) (u : HO), H b = some u → upd H a o b = some u := fun b u q => (upd_ne (ne_of_none q hn)).trans q
  have b0 := I.base
  have U : Un X.fs X.ex X.H_0 (upd H a o) X.s_0.heap s.heap :=
    { keep := b0.keep, slot := b0.slot, free := fun b u q n hx => (far b u q).trans (b0.free b u q n hx), there := b0.there,
      tups := fun b xs q => kp _ _ (b0.tups b xs q), frzs := fun b u w q => kp _ _ (b0.frzs b u w q),
      tbls := fun b ps q => (b0.tbls b ps q).imp fun m z => kp _ _ z }
  refine ⟨I.ok, I.os, I.bare, U, I.loc, I.cell, (upd_ne (Ne.symm nL)).trans I.free, fun x c q => (upd_ne (nC x c q)).trans (I.freeC x c q), fun p hp => ?_, fun b u q => ?_, I.len⟩
  · obtain ⟨z1, z2, z3⟩ := I.pin p hp
    exact ⟨z1, (upd_ne (np p hp)).trans z2, z3⟩
  · by_cases hb : b = a
    · subst hb
      rw [upd_same] at q
      cases q
      exact new
    · rw [upd_ne hb] at q
      exact (I.hok b u q).stay (fun _ _ _ z => z) (fun e z => kp _ _ z) fun e xs z => kp _ _ z
/-- into an except suite, the exception not pinned -/
theorem inv_suite {a : Addr} (I : Inv X pins σ H s) : Inv (X.suite a (X.pn ++ pins)) [] σ H s :=
  { ok := I.ok.suite a (X.pn ++ pins), os := I.os, bare := I.bare, base := I.base, loc := I.loc, cell := I.cell, free := I.free, freeC := I.freeC, pin := fun p hp => I.pin p (by rw [List.append_nil] at hp; exact hp), hok := I.hok, len := I.len }
theorem inv_unsuite {a : Addr} (ok : X.Ok) (I : Inv (X.suite a (X.pn ++ pins)) [] σ H s) : Inv X pins σ H s :=
  { ok := ok, os := I.os, bare := I.bare, base := I.base, loc := I.loc, cell := I.cell, free := I.free, freeC := I.freeC, pin := fun p hp => I.pin p (by rw [List.append_nil]; exact hp), hok := I.hok, len := I.len }
/-- the ends of an except suite: the name is gone -/
def Ends.gone (i : Nat) (D : Ends) : Ends := { nx := fun σ H => D.nx (σ.set i none) H, rt := D.rt, bk := fun σ H => D.bk (σ.set i none) H, ct := fun σ H => D.ct (σ.set i none) H }
/-- what the body of such a try may let out -/
def wHeld (K : PySem.W.Frag) (c : Value) (i : Nat) (ts : Addr → TS) (D : Ends) : WX := fun cls d σ H =>
  PySem.W.exmOne K cls c = some true ∧ ∀ a, H a = none → ∀ (oe : Obj) (vs : Array Value), oe.data = .fields vs → vs[2]? = some .none → ts a (Ends.gone i D) (σ.set i (some (.ref a))) (upd H a (.frz oe (ExV cls d a)))
theorem ps_tryX {x n : Str} {c : Value} {i : Nat} {body suite : List Stmt} {b₀ : Stmt} {np pos pos' : Pos} {tb : WX → TS} {ts : Addr → TS} (hs : X.stack = X.env :: X.outer) (hf : X.env.frame = some X.env.locals) (hex : X.ex = []) (hN : X.N.Nodup) (hi : X.N[i]? = some n) (hln : X.env.kindOf n = some .local) (hc : Names X x c)
    (hb : ∀ (W : WX) (pn : List (Addr × Obj)) (xe : Value → Shared → Prop), L2N.Takes (X.tr pn xe) W → PassesOwn (model X.prog X.w) X.A X.env xe → PSs (X.tr pn xe) body (tb W))
    (hsu : ∀ (a : Addr) (pn : List (Addr × Obj)), PSs (X.suite a pn) (b₀ :: suite) (ts a)) :
    PS X (.Try body [.ExceptHandler (some (.Name x np)) (some n) (b₀ :: suite) pos'] [] [] pos) (fun D σ H => tb (wHeld X.K c i ts D) D σ H) := by
  refine ⟨fun pins s σ H D I h => ?_⟩
  have ok := I.ok
  have hfr : X.A.frames = some (X.env :: X.outer) := ok.frames.trans (congrArg some hs)
  let xe' : Value → Shared → Prop := fun e t1 => wpAny (model X.prog X.w) X.A (noteFrame e X.env) (fun _ t2 => wpAny (model X.prog X.w) X.A (setFlight e none) (fun _ t3 =>
      wpAny (model X.prog X.w) X.A (handleBy e X.env [.ExceptHandler (some (.Name x np)) (some n) (b₀ :: suite) pos']) (SP X pins D) X.xe t3) X.xe t2) X.xe t1
  have catch_ : L2N.Takes (X.tr (X.pn ++ pins) xe') (wHeld X.K c i ts D) := by
    rintro u s' ⟨a, B, sI, pins', σ1, H1, cls, d, rfl, J0, nb, up, sky, na, os, ag, hm, hyes⟩
    have J : Inv X pins σ1 H1 sI := J0.ofTry ok
    have sky1 : Sky B (X.env :: X.outer) a (L2N.Zn cls d) X.env.locals s'.heap := hs ▸ sky
    show wpAny (model X.prog X.w) X.A (noteFrame (.ref a) X.env) (fun _ t2 => wpAny (model X.prog X.w) X.A (setFlight (.ref a) none) _ _ t2) _ s'
    refine L2N.Sky.land L2N.Zn.steady hfr hf sky1 fun h3 fl3 up3 => ?_
    have J3 : Inv X pins σ1 H1 { s' with heap := h3 } := J.landed nb fl3.1 (up.trans up3) os ag
    have S3 : Inv (X.suite a (X.pn ++ pins)) [] σ1 H1 { s' with heap := h3 } := inv_suite J3
    obtain ⟨o3, v3, ho3, hz3, _⟩ := fl3.there
    refine wpAny_handleBy_cons (codeAny_handlers_test ?_) (fun q => by cases q)
    have look : PySem.W.Looks (model X.prog X.w) h3 (typeOf (.ref a)) cls := fun A Q E s k q => wpAny_typeOf_ref (k _ _ ho3) (hz3.1.symm ▸ q)
    have yes := PySem.W.exm_one (M := model X.prog X.w) J3.kIn look hm
    have test : ∀ {Q : Value → Shared → Prop} {E : Value → Shared → Prop}, Q c { s' with heap := h3 } → wpAny (model X.prog X.w) (X.A.mark (some (.ref a))) (eval (.Name x np) X.env) Q E { s' with heap := h3 } := fun {Q E} q => by
      obtain ⟨hg, hdbg, hm1 | ⟨hm1, hv, hnn⟩⟩ := hc
      · exact ld_glob S3 hg hm1 q hdbg
      · exact ld_blt S3 hg hm1 hv q hnn hdbg
    refine test (yes.here ?_)
    refine codeAny_handlers_suite_as ?_
    refine HandSPX.lands_againZ fl3 fun h4 fl4 up4 => ?_
    have J4 : Inv X pins σ1 H1 { s' with heap := h4 } := J.landed nb fl4.1 ((up.trans up3).trans up4) os ag
    obtain ⟨o4, v4, ho4, hz4, hd4⟩ := fl4.there
    have nB : B.get? a = none := fl4.2.1
    have nfr : a ∉ frs X.stack := fun z => by
      rw [hs] at z
      obtain ⟨_, o', e', hnf⟩ := fl4.2.2.1.mem z
      rw [ho4] at e'
      cases e'
      exact hnf _ hd4
    have nI : sI.heap.get? a = none := by
      cases e : sI.heap.get? a with
      | none => rfl
      | some o => exact absurd ((nb a o e nfr).symm.trans nB) (fun z => nomatch z)
    have n0 : X.s_0.heap.get? a = none := by
      cases e : X.s_0.heap.get? a with
      | none => rfl
      | some o =>
        obtain ⟨o', e'⟩ := J.base.there a o e (hex ▸ fun z => nomatch z)
        exact absurd (e'.symm.trans nI) (fun z => nomatch z)
    have nL : a ≠ X.env.locals := fun z => nfr (by rw [hs]; exact List.mem_filterMap.mpr ⟨X.env, List.mem_cons_self, z ▸ hf⟩)
    have nC : ∀ y k, X.env.cells.lookup y = some k → k ≠ a := fun y k e z => by
      obtain ⟨v, o', e1, e2⟩ := J4.cell y k e
      rw [z] at e1
      have e1 : h4.get? a = some o' := e1
      rw [ho4] at e1
      cases e1
      rw [hd4] at e2
      cases e2
    have np' : ∀ p ∈ X.pn ++ pins, p.1 ≠ a := fun p hp z => by
      have q := (J.pin p hp).1
      rw [z, nI] at q
      cases q
    have T4 : Inv X pins σ1 (upd H1 a (.frz o4 (ExV cls d a))) { s' with heap := h4 } := inv_track J4 na n0 nL nC np' ⟨ho4, exV_ok ho4 hz4.zc hd4⟩
    refine store_ok (X := X.suite a (X.pn ++ pins)) (v := .ref a) (inv_suite (a := a) T4) hN hi (.inl hln) rfl (fun s5 S5 => ?_) (.inr hln)
    refine wpAny_mono ((hsu a (X.pn ++ pins)).run [] s5 _ _ _ S5 (hyes a na o4 v4 hd4 (hz4.2.2 v4 hd4))) (fun f s6 hsp => ?_) (fun _ _ z => False.elim z)
    have end_ : ∀ {σ6 : L2.St} {H6 : Hp} {Q : Shared → Prop}, Inv (X.suite a (X.pn ++ pins)) [] σ6 H6 s6 → (∀ s7, Inv X pins (σ6.set i none) H6 s7 → Q s7) →
        wpAny (model X.prog X.w) X.A (do bindName X.env n .none; unbindBehindTheSuite X.env n pos') (fun _ s7 => Q s7) X.xe s6 := fun S6 k => gone_ok (inv_unsuite ok S6) hN hi hln k
    cases f with
    | ret u => exact let ⟨v6, σ6, H6, S6, r6, q6⟩ := hsp; end_ S6 fun s7 J7 => ⟨v6, _, H6, J7, r6, q6⟩
    | next => exact let ⟨σ6, H6, S6, q6⟩ := hsp; end_ S6 fun s7 J7 => ⟨_, H6, J7, q6⟩
    | brk => exact let ⟨σ6, H6, S6, q6⟩ := hsp; end_ S6 fun s7 J7 => ⟨_, H6, J7, q6⟩
    | cont => exact let ⟨σ6, H6, S6, q6⟩ := hsp; end_ S6 fun s7 J7 => ⟨_, H6, J7, q6⟩
  have run := (hb (wHeld X.K c i ts D) (X.pn ++ pins) xe' catch_ PassesOwn.looking).run [] s σ H D (I.toTry _) h
  refine wpAny_Try_except (wpAny_mono run (fun f s1 hsp => ?_) fun e s1 he => he)
  cases f with
  | ret u => exact let ⟨v, σ', H', J', r, q⟩ := hsp; ⟨v, σ', H', J'.ofTry ok, r, q⟩
  | next => exact let ⟨σ', H', J', q⟩ := hsp; wpAny_execs_nil ⟨σ', H', J'.ofTry ok, q⟩
  | brk => exact let ⟨σ', H', J', q⟩ := hsp; ⟨σ', H', J'.ofTry ok, q⟩
  | cont => exact let ⟨σ', H', J', q⟩ := hsp; ⟨σ', H', J'.ofTry ok, q⟩
end
end VI
namespace VI
open PySem PySem.Spec L2
open PyProof.Rows (envOfC)
/-! ### defs called within an except suite: nothing is raised there -/
structure RoomQ (k : Nat) (A : Around) : Prop where
  dp : A.depth + 3 * k + 5 < recursionLimit
  un : A.units + 16 * k + 200 < cLine
section
variable {k : Nat} {A : Around}
theorem roomQ (r : Room k A) : RoomQ k A := ⟨r.dp, r.un⟩
theorem RoomQ.inner (r : RoomQ (k + 1) A) (env : Env) : RoomQ k (A.deeper env) := by
  obtain ⟨h1, h2⟩ := r
  refine ⟨?_, ?_⟩
  · show A.depth + 1 + 3 * k + 5 < _
    omega
  · show A.units + 3 + 16 * k + 200 < _
    omega
theorem RoomQ.mark (r : RoomQ k A) (o : Option Value) : RoomQ k (A.mark o) := ⟨r.dp, r.un⟩
theorem RoomQ.units (r : RoomQ k A) : A.units + 64 < cLine := by
  have := r.un
  omega
theorem RoomQ.units65 (r : RoomQ k A) : A.units + 65 < cLine := by
  have := r.un
  omega
end
section
variable {P : Program} {w : World} {K : PySem.W.Frag} {mg : Str → Option Value} {base : Heap}
/-- the exception that is handled is kept as it stands, its context is None -/
def HotNow (A : Around) (H : Hp) : Prop := ∃ (b : Addr) (oe : Obj) (vs : Array Value) (cls : Value) (d : Option Addr), A.handled = some (.ref b) ∧ H b = some (.frz oe (ExV cls d b)) ∧ oe.data = .fields vs ∧ vs[2]? = some .none
abbrev HotIn (X : Cx) : Prop := HotNow X.A X.H_0
theorem HotNow.now {X : Cx} {pins : List (Addr × Obj)} {σ : L2.St} {H : Hp} {s : Shared} (h : HotIn X) (I : Inv X pins σ H s) : HotNow X.A H := by
  obtain ⟨b, oe, vs, cls, d, h1, h2, h3⟩ := h
  exact ⟨b, oe, vs, cls, d, h1, I.base.frzs _ _ _ h2, h3⟩
theorem HotNow.at' {X : Cx} {pins : List (Addr × Obj)} {σ : L2.St} {H : Hp} {s : Shared} (h : HotNow X.A H) (I : Inv X pins σ H s) : ∃ b, HotX.HotAt X.A b s.heap := by
  obtain ⟨b, oe, vs, cls, d, h1, h2, h3, h4⟩ := h
  exact ⟨b, h1, oe, vs, (I.hok b _ h2).1, h3, h4⟩
structure FnQ (P : Program) (w : World) (K : PySem.W.Frag) (mg : Str → Option Value) (base : Heap) (k : Nat) (f : Addr) (fd : FuncData) (ps : List Str) (sp : Sp) : Prop where
  len : ∀ vs H Q, sp vs H Q E0 → vs.length = ps.length
  run : ∀ (A : Around) (outer : List Env) (s : Shared) (H : Hp) (args : Args) (us : List Value) (vs : List V) (Q : VK), RoomQ k A → HotNow A H → Env0 P w K mg base A outer s H → BindsTo s fd args (ps.zip us) → Vals vs us → sp vs H Q E0 → codeAny (model P w) A (.call (.ref f) args) (CR CX0 outer P w H s Q E0) s
def cxQ (P : Program) (w : World) (K : PySem.W.Frag) (mg : Str → Option Value) (base : Heap) (N : List Str) (qual : Str) (scope : Scope) (f : Addr) (cd : Value) (A : Around) (outer : List Env) (s : Shared) (H : Hp) : Cx :=
  { cxOf CX0 P w K mg base N qual scope f cd A outer s H E0 with calm := false, xe := fun _ _ => False }
theorem fnQ_of {x qual : Str} {params : Arguments} {body : List Stmt} {scope : Scope} {f : Addr} {fd : FuncData} {N ps : List Str} {k : Nat} {sp : Sp} (F : FunD K x qual params body scope [] [] f fd) (S : FnScope N ps scope) (len : ∀ vs H Q, sp vs H Q E0 → vs.length = ps.length)
    (hb : ∀ (cdv : Value) (A : Around) (outer : List Env) (s : Shared) (H : Hp) (vs : List V) (Q : VK), RoomQ k (A.deeper (envOfC qual scope s.heap.objs.size f cdv)) → HotNow A H → sp vs H Q E0 →
      ∃ t, PSs (cxQ P w K mg base N qual scope f cdv A outer s H) body t ∧ t { nx := fun _ H' => Q .non H', rt := Q } (L2.start N vs) H) : FnQ P w K mg base (k + 1) f fd ps sp := by
  obtain ⟨oc, od, dV, kV, doc, pm, an, cdv, ct, osl, rfl, lk, hcd, _, _⟩ := F.ex
  refine ⟨len, fun A outer s H args us vs Q hr hot e0 hbi r h => ?_⟩
  have hl := len _ _ _ h
  have kb : ∀ b o, base.get? b = some o → s.heap.get? b = some o := fun b o e => (e0.bs b o e).1
  have lim := e0.mod.nolimit.keeps kb
  have hd1 : A.depth < recursionLimit := by
    have := hr.dp
    omega
  refine codeAny_call_function hd1 (e0.mod.kin.keeps kb _ _ lk) rfl S.co S.gen rfl (PySem.W.codeRec_of (e0.mod.kin.keeps kb) hcd) (hbi _ _ _ _ ?_)
  refine wpAny_newFunctionEnv_cells S.kind (fun y hy => ?_) fun env he s1 x => ?_
  · rcases S.par y.1 (List.of_mem_zip (show (y.1, y.2) ∈ ps.zip us from hy)).1 with q | q
    · exact .inl q
    · exact .inr ⟨q, PySem.W.cellsFrom_some _ _ _ (.inl q)⟩
  subst he
  refine ⟨lim.keeps x.toInCall.keep, codeAny_func ?_⟩
  obtain ⟨t, ht, hq⟩ := hb cdv A outer s H vs Q (hr.inner _) hot h
  have e1 : Env0 P w K mg base { A with handled := none } outer s H := { frames := e0.frames, mod := e0.mod, bs := e0.bs, bsz := e0.bsz, funs := e0.funs, frf := e0.frf, hok := e0.hok, bare := e0.bare }
  have J := inv_start (CX := CX0) (E := E0) S (A := { A with handled := none }) rfl e1 hl r x
  have ok : (cxQ P w K mg base N qual scope f cdv A outer s H).Ok :=
    { mod := J.ok.mod, kind := J.ok.kind, glob := J.ok.glob, blt := J.ok.blt, above := J.ok.above, inj := J.ok.inj, has := J.ok.has, cab := J.ok.cab, hd := fun z => Bool.noConfusion (show false = true from z), frames := J.ok.frames, stk := J.ok.stk, exf := J.ok.exf, bs := J.ok.bs, bsz := J.ok.bsz, noex := J.ok.noex, exfs := J.ok.exfs, funs := J.ok.funs, frf := J.ok.frf }
  have I : Inv (cxQ P w K mg base N qual scope f cdv A outer s H) [] (L2.start N vs) H s1 :=
    { ok := ok, os := J.os, bare := J.bare, base := J.base, loc := J.loc, cell := J.cell, free := J.free, freeC := J.freeC, pin := J.pin, hok := J.hok, len := J.len }
  refine wpAny_mono (ht.run [] s1 (L2.start N vs) H _ I hq) (fun fl s' hs => ?_) fun e s' hs => hs.elim
  have done : ∀ {σ' : L2.St} {H' : Hp} {v : V} {u : Value}, Inv (cxQ P w K mg base N qual scope f cdv A outer s H) [] σ' H' s' → RelV v u → Q v H' → CE outer P w H s Q u s' := fun {σ' H' v u} J rv q =>
    ⟨v, H', J.os, J.bare, J.base, J.hok, rv, q⟩
  cases fl with
  | next => exact let ⟨σ', H', J', q⟩ := hs; done (v := .non) (u := .none) J' rfl q
  | ret u => exact let ⟨v, σ', H', J', rv, q⟩ := hs; done J' rv q
  | brk => exact hs.elim fun _ z => z.elim fun _ z => z.2.elim
  | cont => exact hs.elim fun _ z => z.elim fun _ z => z.2.elim
theorem okQ {G : Gc} {x qual : Str} {params : Arguments} {body : List Stmt} {scope : Scope} {f : Addr} {fd : FuncData} {N ps : List Str} {k : Nat} {rk : Kd} {pu : Bool} {fb : Dl → Store → SRes} {m1 : List Md} (F : FunD K x qual params body scope [] [] f fd) (S : FnScope N ps scope)
    (hb : ∀ (lk : Addr → Prop) (cdv : Value) (A : Around) (outer : List Env) (s : Shared) (H : Hp), (pu = true ∨ ∀ a, ¬ lk a) → RoomQ k (A.deeper (envOfC qual scope s.heap.objs.size f cdv)) → HotNow A H →
      PSs (cxQ P w K mg base N qual scope f cdv A outer s H) body (tS (G.L lk) W0 pu rk fb (md0 N.length ps.length) m1)) :
    FnQ P w K mg base (k + 1) f fd ps (spD G ps.length rk pu (runD N.length rk fb)) := by
  have hN : ps.length ≤ N.length := by
    have h := congrArg List.length S.pre
    rw [List.length_take] at h
    omega
  refine fnQ_of F S (fun vs H Q h => h.1) fun cdv A outer s H vs Q hr hot h => ?_
  obtain ⟨hl, lk, Z, c, S0, ds, hk, st, rs, q⟩ := h
  refine ⟨_, hb lk cdv A outer s H hk hr hot, ⟨H, Z, c, fun _ _ _ => True, fun _ _ _ _ _ _ _ h => h⟩, ds.map some ++ List.replicate (N.length - ds.length) none, S0, Z, c, ?_, ?_⟩
  · have R := rst0 (pu := pu) (N := N) st rs (by rw [hl]; exact hN)
    rw [hl] at R
    exact R
  · unfold runD at q
    cases hf : fb (ds.map some ++ List.replicate (N.length - ds.length) none) S0 with
    | st => rw [hf] at q; exact q.elim
    | ex j ds' S' => rw [hf] at q; exact fun σ' H' Z' c' cls dd a s' x => q H' Z' c' cls dd a s' x
    | ret d S' => rw [hf] at q; exact fun v H' Z' c' a s' x => q v H' Z' c' a s' x
    | nx δ' S' =>
      rw [hf] at q
      cases rk with
      | z => exact fun σ' H' Z' c' R => q .non H' Z' c' R.adv R.st .non
      | o => exact q.elim
      | b => exact q.elim
end
section
variable {X : Cx}
/-- f(e, ..) within an except suite, by what the def promises -/
theorem pe_callQ0 {k : Nat} {f : Addr} {fd : FuncData} {ps : List Str} {sp : Sp} {x : Str} {p pos : Pos} {e : Expr} {es : List Expr} {ta : TA} (F : FnQ X.prog X.w X.K X.mg X.base k f fd ps sp) (hr : RoomQ k X.A) (hg : Gl X x) (hm : X.mg x = some (.ref f)) (hk : PySem.W.keepIn X.K (.ref f) = true) (hb : Binds X.K fd ps []) (ha : PA X (e :: es) ta)
    (hdb : (x == ("__debug__" : Str)) = false) (he : starEach (e :: es) X.env = (false, eval e X.env) :: starEach es X.env) (hpl : (backTo pos (starEach es X.env)).any (·.1) = false) :
    PE X (.Call (.Name x p) (e :: es) [] pos) (fun σ H Q => ta σ H fun vs H1 => HotNow X.A H1 ∧ sp vs H1 Q E0) := by
  refine ⟨fun pins s σ H Q I h => ?_⟩
  refine wpAny_Call_Name_kw (ld_glob I hg hm ?_ hdb)
  refine PySem.W.callWith_K (h₀ := X.base) I.ok.mod.kin hk (thn (ha.run pos pins s σ H _ I h) fun us s1 hz => ?_) he hpl
  obtain ⟨vs, H1, I1, r, hot, q⟩ := hz
  refine ⟨I1.kIn, ?_⟩
  refine wpAny_call (codeAny_mono (F.run X.A X.stack s1 H1 ⟨us, []⟩ us vs Q hr hot I1.env0 (by simpa using hb s1 us I1.kIn (by rw [List.append_nil, ← r.length]; exact F.len _ _ _ q)) r q) fun z s2 hz => ?_)
  cases z with
  | error _ => exact hz.elim
  | ok fl => cases fl with
    | ret _ => exact I1.after hz
    | next => exact hz.elim
    | brk => exact hz.elim
    | cont => exact hz.elim
end
section
variable {G : Gc} {pv : Bool} {X : Cx} {lk : Addr → Prop}
/-- f(e, ..) within an except suite, or within a def that is called there -/
theorem pe_callQ {n k : Nat} {kd : Kd} {pu : Bool} {f : Addr} {fd : FuncData} {ps : List Str} {x : Str} {p pos : Pos} {e : Expr} {es : List Expr} {g : List D → Store → Res} {fa : Dl → Store → Ress} {okm : List Md → Prop} (F : FnQ X.prog X.w X.K X.mg X.base k f fd ps (spD G n kd pu g)) (hr : RoomQ k X.A) (hot : HotIn X) (hg : Gl X x) (hm : X.mg x = some (.ref f)) (hk : PySem.W.keepIn X.K (.ref f) = true) (hb : Binds X.K fd ps [])
    (hp : pv = true → pu = true) (hlk : pu = true ∨ ∀ a, ¬ lk a) (hl : ∀ δ S ds S', fa δ S = .ok ds S' → ds.length = n) (ha : PA X (e :: es) (tAs (G.L lk) W0 pv fa true okm)) (hdb : (x == ("__debug__" : Str)) = false)
    (he : starEach (e :: es) X.env = (false, eval e X.env) :: starEach es X.env) (hpl : (backTo pos (starEach es X.env)).any (·.1) = false) :
    PE X (.Call (.Name x p) (e :: es) [] pos) (tE (G.L lk) W0 pv (fCall fa g) kd okm) := by
  refine ⟨fun pins s σ H Q I h => ?_⟩
  have h1 := call_tE (W := W0) (n := n) hp hlk hl h
  refine wpAny_Call_Name_kw (ld_glob I hg hm ?_ hdb)
  refine PySem.W.callWith_K (h₀ := X.base) I.ok.mod.kin hk (thn (ha.run pos pins s σ H _ I h1) fun us s1 hz => ?_) he hpl
  obtain ⟨vs, H1, I1, r, q⟩ := hz
  refine ⟨I1.kIn, ?_⟩
  have q' : spD G n kd pu g vs H1 Q E0 := q
  refine wpAny_call (codeAny_mono (F.run X.A X.stack s1 H1 ⟨us, []⟩ us vs Q hr (hot.now I1) I1.env0 (by simpa using hb s1 us I1.kIn (by rw [List.append_nil, ← r.length]; exact F.len _ _ _ q')) r q') fun z s2 hz => ?_)
  cases z with
  | error _ => exact hz.elim
  | ok fl => cases fl with
    | ret _ => exact I1.after hz
    | next => exact hz.elim
    | brk => exact hz.elim
    | cont => exact hz.elim
end
end VI
end

section
set_option Elab.async false
set_option linter.all false
set_option autoImplicit false
set_option maxRecDepth 100000
set_option maxHeartbeats 2000000
/-! VX, 3: raise, except, read on data -/
namespace VI
open PySem PySem.Spec L2
section
variable {gv : Gv} {pu : Bool} {E : Ent pu} {H : Hp} {Z : Addr → Prop} {c : List Addr} {S : Store} {m : List Md} {δ : List (Option D)} {σ : L2.St}
theorem rst_unset (r : Rst gv pu E m δ S Z c σ H) (i : Nat) : Rst gv pu E (m.set i .x) (δ.set i none) S Z c (σ.set i none) H := by
  have ne : ∀ (j : Nat) (e : Md), (m.set i .x)[j]? = some e → e ≠ .x → i ≠ j ∧ m[j]? = some e := fun j e h1 h2 => by
    rcases getElem?_set' h1 with ⟨_, q, _⟩ | ⟨q1, q2⟩
    · exact absurd q.symm h2
    · exact ⟨q1, q2⟩
  refine ⟨r.st, r.adv, r.an, by simpa using r.lm, by simpa using r.ld, fun j e h1 h2 => ?_, fun j h => ?_, fun j k a n h1 h2 h3 h4 => ?_⟩
  · obtain ⟨q1, q2⟩ := ne j _ h1 (by simp)
    rw [List.getElem?_set_ne q1] at h2
    rw [List.getElem?_set_ne q1]
    exact r.zs j e q2 h2
  · obtain ⟨q1, q2⟩ := ne j _ h (by simp)
    rw [List.getElem?_set_ne q1, List.getElem?_set_ne q1]
    exact r.os j q2
  · obtain ⟨q1, q2⟩ := ne j _ h1 (by simp)
    obtain ⟨q3, q4⟩ := ne k _ h2 (by simp)
    rw [List.getElem?_set_ne q1] at h3
    rw [List.getElem?_set_ne q3] at h4
    exact r.ds j k a n q2 q4 h3 h4
end
section
variable {X : Cx} {pins : List (Addr × Obj)} {σ : L2.St} {H : Hp} {s : Shared}
/-- C(v): a new exception, to be raised -/
theorem mkN {us : List Value} {kw : List (Str × Value)} {u : Value} {v : V} {C fI : Addr} {k : Nat} {fd : FuncData} {p0 p1 f : Str} {Q : XK} {CX : CXT} (T : OexC X.K C) (iC : PySem.W.findIn X.K (.ref C) "__init__" = some (some (.ref fI))) (tI : PySem.W.typeIn X.K (.ref fI) = some (.type "function"))
    (F1 : FnOk X.prog X.w X.K X.mg X.base CX k fI fd [p0, p1] (spIni X.K f)) (hr : Room (k + 1) X.A) (hb : ∀ (s : Shared) (e : Addr), X.K.In s.heap → BindsTo s fd ⟨.ref e :: us, kw⟩ ([p0, p1].zip [.ref e, u])) (hx : Passes CX X (fun _ _ _ => False))
    (ru : RelV v u) (hno : PySem.W.findIn X.K (.ref C) f = some none) (I : Inv X pins σ H s) (hl : us.length ≤ sizeLine) (q : ∀ dx, H dx = none → Q (.ref C) (some dx) (upd H dx (.xd [(f, v)]))) :
    wpAny (model X.prog X.w) X.A (call (.ref C) us kw) (L2N.MkP X pins σ Q) X.xe s := by
  obtain ⟨nm, qn, N, bs, bm, sn, sub, ab, col, dd, k0, k1, k2, k3, k5, hC, hbm⟩ := T.cls
  obtain ⟨hp, g, dr, tk, os⟩ := s
  have hsz : hp.objs.size ≤ hp.objs.size + 1 := Nat.le_succ _
  have hn : H (hp.objs.size + 1) = none := I.hok.fresh hsz
  have kk : ∀ b o, hp.get? b = some o → ((hp.push (PySem.W.kdv_tup us)).push (PySem.HandSPX.excO C hp.objs.size)).get? b = some o := fun b o e => Heap.get?_push_of_some _ (Heap.get?_push_of_some _ e)
  have hget : ((hp.push (PySem.W.kdv_tup us)).push (PySem.HandSPX.excO C hp.objs.size)).get? (hp.objs.size + 1) = some (PySem.HandSPX.excO C hp.objs.size) := by heap_get
  have I2 : Inv X pins σ (upd H (hp.objs.size + 1) (exo (hp.objs.size + 1) C none)) ⟨(hp.push (PySem.W.kdv_tup us)).push (PySem.HandSPX.excO C hp.objs.size), g, dr, tk, os⟩ :=
    I.laid (t' := tk) (a := hp.objs.size + 1) (o := exo (hp.objs.size + 1) C none) (h' := (hp.push (PySem.W.kdv_tup us)).push (PySem.HandSPX.excO C hp.objs.size)) kk hsz (exo_ok hget)
  have r2 : Vals [V.ref (hp.objs.size + 1), v] [Value.ref (hp.objs.size + 1), u] := .cons rfl (.cons ru .nil)
  have hq : spIni X.K f [V.ref (hp.objs.size + 1), v] (upd H (hp.objs.size + 1) (exo (hp.objs.size + 1) C none)) (fun v' H2 => v' = .non ∧ ∃ dx, H dx = none ∧ dx ≠ hp.objs.size + 1 ∧ H2 = upd (upd (upd H (hp.objs.size + 1) (exo (hp.objs.size + 1) C none)) dx (exd dx [(f, v)])) (hp.objs.size + 1) (exo (hp.objs.size + 1) C (some dx))) (fun _ _ _ => False) :=
    ⟨_, C, v, rfl, T, hno, upd_same, fun dx h1 h2 => ⟨rfl, dx, by rw [upd_ne h2] at h1; exact h1, h2, rfl⟩⟩
  refine wpAny_call (VX.callKw F.excBase_ValueError (fun Y => PySem.HandSPX.refsVE_contains Y bm hbm) (I.kIn _ _ hC) (PySem.W.looks_findIn I.kIn iC) (fun self => PySem.W.bind_fn I.kIn self tI) hl
    (codeAny_mono (F1.run _ X.stack _ _ ⟨Value.ref (hp.objs.size + 1) :: us, kw⟩ [Value.ref (hp.objs.size + 1), u] _ _ (fun _ _ _ => False) (hr.make C us kw) (I2.env0.make C us kw) (hb _ (hp.objs.size + 1) I2.kIn) r2 hq) fun r s' hq' => ?_))
  cases r with
  | error er => exact hx pins σ _ _ er s' I2 hq'
  | ok fl =>
    cases fl with
    | ret u' =>
      obtain ⟨v', H2, os2, bare2, un2, hok2, rv, ev, dx, hd1, ne, eH⟩ := hq'
      subst ev
      obtain ⟨h2, g2, d2, t2, os'⟩ := s'
      obtain ⟨t0, G, J, kG, ge, hoe, na⟩ := mk_end0 (d2 := d2) (t2 := t2) (C := C) (a := hp.objs.size + 1) (d := dx) (fs := [(f, v)]) I hsz kk un2 hok2 os2 bare2 (by rw [eH, upd_same]) (by rw [eH, upd_ne ne, upd_same]) hd1
      have na' : upd H dx (.xd [(f, v)]) (hp.objs.size + 1) = none := by rw [upd_ne (Ne.symm ne)]; exact hn
      rw [eH, mk_heap hn ne] at J
      exact ⟨rv, ⟨hp.objs.size + 1, _, _, ⟨G, g2, d2, t2, os'⟩, _, .ref C, some dx, rfl, J, kG, ge, hoe, ⟨rfl, rfl, fun vs hv => by cases hv; rfl⟩, rfl, rfl, na', rfl, bare2, raises_own T.exC T.tyC, q dx hd1⟩⟩
    | next => exact False.elim hq'
    | brk => exact False.elim hq'
    | cont => exact False.elim hq'
theorem pmkN {C fI : Addr} {k : Nat} {fd : FuncData} {p0 p1 f x : Str} {e : Expr} {te : TE} {p pos : Pos} {CX : CXT} (T : OexC X.K C) (iC : PySem.W.findIn X.K (.ref C) "__init__" = some (some (.ref fI))) (tI : PySem.W.typeIn X.K (.ref fI) = some (.type "function"))
    (F1 : FnOk X.prog X.w X.K X.mg X.base CX k fI fd [p0, p1] (spIni X.K f)) (hr : Room (k + 1) X.A) (hb : Binds X.K fd [p0, p1] []) (hx : Passes CX X (fun _ _ _ => False)) (hno : PySem.W.findIn X.K (.ref C) f = some none) (hg : Gl X x) (hm : X.mg x = some (.ref C)) (he : PE X e te)
    (hs : starEach [e] X.env = (false, eval e X.env) :: starEach [] X.env) (hdb : (x == ("__debug__" : Str)) = false) :
    L2N.PMk X (.Call (.Name x p) [e] [] pos) (fun σ H Q => te σ H fun v H1 => ∀ dx, H1 dx = none → Q (.ref C) (some dx) (upd H1 dx (.xd [(f, v)]))) := by
  intro pins s σ H Q I h
  refine wpAny_Call_Name_kw (ld_glob I hg hm ?_ hdb)
  refine PySem.W.callWith_K (h₀ := X.base) I.ok.mod.kin T.kC ?_ hs (by rfl)
  rw [hs]
  show wpAny _ _ (spliced ((false, eval e X.env) :: backTo pos (starEach [] X.env))) _ _ s
  refine Calls.spliced_cons (thn (he.run pins s σ H _ I h) fun u s1 ⟨v, H1, I1, r1, q1⟩ => ?_)
  refine Calls.spliced_nil ⟨I1.kIn, ?_⟩
  show wpAny _ _ (call (.ref C) [u]) _ _ _
  exact mkN (us := [u]) (kw := []) T iC tI F1 hr (fun s e k => hb s [.ref e, u] k rfl) hx r1 hno I1 (by show 1 ≤ sizeLine; rw [sizeLine_eq]; omega) q1
end
/-- try: raise j(f) / except .. as i: iv = g(i), where it is caught -/
def sTryC (i iv j : Nat) (f : Dl → Store → Res) (g : List D → Store → Res) : Dl → Store → SRes := fun δ S => match f δ S with
  | .ok d S1 => (match g [.exc j [d]] S1 with
    | .ok r S2 => .nx ((δ.set iv (some r)).set i none) S2
    | _ => .st)
  | _ => .st
section
variable {G : Gc} {W : WX} {pv : Bool} {X : Cx} {rk : Kd} {m : List Md} {lk : Addr → Prop}
theorem ps_tryCD {i iv j k kq : Nat} {x bx n y fx fld p0 p1 : Str} {C fI fA : Addr} {cB : Value} {fd fdA : FuncData} {ps : List Str} {e : Expr} {np np2 py p pf cp spos pos pos2 pos3 pos' : Pos} {f : Dl → Store → Res} {g : List D → Store → Res} {okm : List Md → Prop} {pu : Bool}
    (hs : X.stack = X.env :: X.outer) (hf : X.env.frame = some X.env.locals) (hex : X.ex = []) (hcalm : X.calm = true) (hN : X.N.Nodup) (hi : X.N[i]? = some n) (hln : X.env.kindOf n = some .local) (hnd : (n == ("__debug__" : Str)) = false) (hncd : (n == ("__classdict__" : Str)) = false) (hc : Names X bx cB) (hyes : PySem.W.exmOne X.K (.ref C) cB = some true)
    (T : OexC X.K C) (iC : PySem.W.findIn X.K (.ref C) "__init__" = some (some (.ref fI))) (tI : PySem.W.typeIn X.K (.ref fI) = some (.type "function")) (F1 : FnOk X.prog X.w X.K X.mg X.base CX0 k fI fd [p0, p1] (spIni X.K fld)) (hr : Room (k + 1) X.A) (hb : Binds X.K fd [p0, p1] [])
    (hno : PySem.W.findIn X.K (.ref C) fld = some none) (hg : Gl X x) (hm : X.mg x = some (.ref C)) (hxc : G.gv.x j = some (C, [fld])) (hok : okm m) (hil : i < m.length) (hivl : iv < m.length) (hne : i ≠ iv) (he : ∀ (pn : List (Addr × Obj)) (xe : Value → Shared → Prop), PE (X.tr pn xe) e (tE (G.L lk) W0 pv f .z okm))
    (FA : FnQ X.prog X.w X.K X.mg X.base kq fA fdA ps (spD G 1 .z pu g)) (hrA : RoomQ kq X.A) (hgA : Gl X fx) (hmA : X.mg fx = some (.ref fA)) (hkA : PySem.W.keepIn X.K (.ref fA) = true) (hbA : Binds X.K fdA ps []) (hp : pv = true → pu = true) (hlk : pu = true ∨ ∀ a, ¬ lk a) (hy : NameOk X iv y)
    (hse : starEach [e] X.env = (false, eval e X.env) :: starEach [] X.env) (hdb : (x == ("__debug__" : Str)) = false) (hdA : (fx == ("__debug__" : Str)) = false) (hsA : starEach [.Name n np2] X.env = (false, eval (.Name n np2) X.env) :: starEach [] X.env)
    (hsw : swapsWith (.Call (.Name fx pf) [.Name n np2] [] cp) (some (.Name y py)) spos.line X.env = pure false) :
    PS X (.Try [.Raise (some (.Call (.Name x p) [e] [] pos)) none pos2] [.ExceptHandler (some (.Name bx np)) (some n) [.Assign [.Name y py] (.Call (.Name fx pf) [.Name n np2] [] cp) spos] pos'] [] [] pos3) (tS (G.L lk) W pv rk (sTryC i iv j f g) m ((m.set iv .z).set i .x)) :=
  (ps_tryX (ts := fun a => tAsg (fun σ H Q => tCons (tVar i) tNil σ H fun vs H1 => HotNow (X.A.mark (some (.ref a))) H1 ∧ spD G 1 .z pu g vs H1 Q E0) (gName iv))
    (tb := fun W D σ H => tE (G.L lk) W0 pv f .z okm σ H fun v H1 => ∀ dx, H1 dx = none → W (.ref C) (some dx) σ (upd H1 dx (.xd [(fld, v)]))) hs hf hex hN hi hln hc
    (fun W2 pn xe tk _ => pss_one (L2N.ps_raise (X := X.tr pn xe) hcalm tk (pmkN (X := X.tr pn xe) T iC tI F1 hr hb pass0 hno hg hm (he pn xe) hse hdb)))
    (fun a pn => pss_one (ps_set (X := X.suite a pn) hN hy.n hy.l (pe_callQ0 (X := X.suite a pn) FA (hrA.mark _) hgA hmA hkA hbA (pa_cons (pe_var hi (.inl hln) hnd hncd) pa_nil hsA) hdA hsA rfl) hsw hy.f))).impD fun D σ H q => by
    obtain ⟨E, δ, S, Z, c, R, q⟩ := q
    refine ⟨E, m, δ, S, Z, c, R, hok, ?_⟩
    unfold sTryC at q
    cases hfe : f δ S with
    | st => rw [hfe] at q; exact q.elim
    | ex j ds S' => rw [hfe] at q; exact q.elim
    | ok d S1 =>
      rw [hfe] at q
      dsimp only at q
      intro v H1 Z1 c1 a1 s1 rv dx hdx
      have rv : Rep (G.L lk).gv H1 Z1 c1 v d := rv
      refine ⟨hyes, fun b hb' oe ws ho hw => ?_⟩
      have A1 : Adv pv H1 Z1 c1 (upd H1 dx (.xd [(fld, v)])) Z1 c1 := Adv.new hdx
      have A2 : Adv pv (upd H1 dx (.xd [(fld, v)])) Z1 c1 (upd (upd H1 dx (.xd [(fld, v)])) b (.frz oe (ExV (.ref C) (some dx) b))) Z1 c1 := Adv.new hb'
      have s2 := (s1.new (o := .xd [(fld, v)]) hdx).new (o := .frz oe (ExV (.ref C) (some dx) b)) hb'
      have R2 := R.step (a1.trans (A1.trans A2)) s2
      have hl : i < σ.length := by rw [← R.lm]; exact hil
      have hl2 : iv < σ.length := by rw [← R.lm]; exact hivl
      have nb : dx ≠ b := fun z => by subst z; rw [upd_same] at hb'; cases hb'
      have rx : Rep (G.L lk).gv (upd (upd H1 dx (.xd [(fld, v)])) b (.frz oe (ExV (.ref C) (some dx) b))) Z1 c1 (.ref b) (.exc j [d]) :=
        .exc1 (vs := [v]) hxc (.inr ⟨oe, upd_same⟩) (by rw [upd_ne nb, upd_same]; rfl) rfl (.cons (rv.mono ((A1.trans A2).grow s1)) .nil)
      refine ⟨.ref b, List.getElem?_set_self hl, ⟨⟨b, oe, ws, _, _, rfl, upd_same, ho, hw⟩, ⟨rfl, lk, Z1, c1, S1, [.exc j [d]], hlk, s2, .cons rx .nil, ?_⟩⟩⟩
      cases hgg : g [.exc j [d]] S1 with
      | st => rw [hgg] at q; exact q
      | ex j ds S' => rw [hgg] at q; exact q.elim
      | ok r S2 =>
        rw [hgg] at q
        dsimp only at q
        intro w H' Z' c' a' s' rw'
        have R3 := rst_unset ((R2.step (a'.weak hp) s').setZ hl2 rw') i
        have e : ((σ.set i (some (V.ref b))).set iv (some w)).set i none = (σ.set iv (some w)).set i none := by
          rw [List.set_comm _ _ hne, List.set_set]
        show D.nx (((σ.set i (some (V.ref b))).set iv (some w)).set i none) H'
        rw [e]
        exact q _ H' Z' c' R3
end
end VI
namespace VI
open PySem PySem.Spec L2
/-! ### pop of a cell -/
section
variable {G : Gc} {W : WX} {pv : Bool} {X : Cx} {o e : Expr} {fo f : Dl → Store → Res} {k k1 : Kd} {oko okm : List Md → Prop} {ap cp : Pos}
theorem pe_cpopD (hpv : pv = false) (hlk : ∀ a, ¬ G.gv.lk a) (ho : PE X o (tE G W pv fo k oko)) (hb : attributeBase o "pop" X.env (eval o X.env) = eval o X.env) (hl : (ap.endLine == cp.line) = true) :
    PE X (.Call (.Attribute o "pop" ap) [] [] cp) (tE G W pv (fCm fo fNil mPop) .z oko) := (pe_bm0 PySem.F.plainAttrs_list PySem.F.slot_list_pop PySem.F.type_list_pop mt_pop ho hb hl).impD fun σ H Q q => cell_tM0 hpv hlk pop_ok q
/-- without the key x -/
def ddrop : List D → List D → D → List D × List D
  | k :: ks, v :: vs, x => let r := ddrop ks vs x; if D.beq k x then r else (k :: r.1, v :: r.2)
  | _, _, _ => ([], [])
theorem drop_of {gv : Gv} {H : Hp} {Z : Addr → Prop} {c : List Addr} {κ : Type} [DecidableEq κ] {f : κ → D} (hf : ∀ a b, D.beq (f a) (f b) = decide (a = b)) {k : κ} : ∀ {kvs : List (κ × V)} {vs : List D}, Reps gv H Z c (kvs.map (·.2)) vs →
    (ddrop (kvs.map fun p => f p.1) vs (f k)).1 = (dropK kvs k).map (fun p => f p.1) ∧ Reps gv H Z c ((dropK kvs k).map (·.2)) (ddrop (kvs.map fun p => f p.1) vs (f k)).2
  | [], _, r => by cases r; exact ⟨rfl, .nil⟩
  | p :: kvs, _, r => by
    cases r with
    | cons r t =>
      obtain ⟨h1, h2⟩ := drop_of hf (k := k) t
      unfold dropK at h1 h2 ⊢
      simp only [List.map_cons, ddrop, hf, List.filter_cons]
      by_cases e : p.1 = k
      · simp only [e, decide_true, if_true, ne_eq, not_true, decide_false, Bool.false_eq_true, if_false]
        exact ⟨h1, h2⟩
      · simp only [e, decide_false, Bool.false_eq_true, if_false, ne_eq, not_false_iff, decide_true, if_true, List.map_cons]
        exact ⟨by rw [h1], .cons r h2⟩
def fCdp (fo f : Dl → Store → Res) : Dl → Store → Res := fun δ S => bindR (fo δ S) fun d S1 => match d with
  | .cell n => (match S1[n]? with
    | some (.dct false _ _) => bindR (f δ S1) fun x S2 => (match S2[n]? with
      | some (.dct false ks vs) => (match isKey x, dlook ks vs x with
        | true, some v => .ok v (S2.set n (.dct false (ddrop ks vs x).1 (ddrop ks vs x).2))
        | _, _ => .st)
      | _ => .st)
    | _ => .st)
  | _ => .st
theorem bd_dK {gv : Gv} {H : Hp} {Z : Addr → Prop} {c : List Addr} {o : HO} {ks vs : List D} (b : Bd gv H Z c o (.dct false ks vs)) : ∃ kvs : List (Key × V), o = .dK kvs ∧ ks = kvs.map (fun p => keyD p.1) ∧ Reps gv H Z c (kvs.map (·.2)) vs := by
  cases b with
  | dK e r => exact ⟨_, rfl, e, r⟩
theorem pe_cdpopD (hpv : pv = false) (hlk : ∀ a, ¬ G.gv.lk a) (ho : PE X o (tE G W pv fo k oko)) (he : PE X e (tE G W pv f k1 okm)) (m : M1 X o "pop" ap e cp) :
    PE X (.Call (.Attribute o "pop" ap) [e] [] cp) (tE G W pv (fCdp fo f) .z fun m => oko m ∧ okm m) := (pe_dpop1 ho he m).impD fun σ H Q q => by
  obtain ⟨E, m, δ, S, Z, c, R, ⟨ok1, ok2⟩, q⟩ := q
  refine ⟨E, m, δ, S, Z, c, R, ok1, ?_⟩
  unfold fCdp bindR at q
  cases hf : fo δ S with
  | st => rw [hf] at q; exact q
  | ex j ds S' => rw [hf] at q; exact q
  | ok d S1 =>
    rw [hf] at q
    intro v H1 Z1 c1 a1 s1 rk1
    cases d with
    | cell n =>
      dsimp only at q
      have hv : ∃ a, v = .ref a ∧ c1[n]? = some a := by
        cases rk1.vw with
        | rep r => cases r with
          | cell h => exact ⟨_, rfl, h⟩
          | obj _ _ b => cases b
        | top _ _ b _ => cases b
      obtain ⟨a, rfl, hn⟩ := hv
      obtain ⟨sc, o1, w1, w2, w3, w4, w5⟩ := s1.ok n a hn
      have w2 := w2.un hlk
      rw [w1] at q
      cases sc with
      | lst xs => exact q.elim
      | dct t ks vs =>
        cases t with
        | true => exact q.elim
        | false =>
          dsimp only at q
          obtain ⟨kvs, rfl, _, _⟩ := bd_dK w4
          refine ⟨a, rfl, .inl ⟨kvs, .inl w2⟩, E, m, δ, S1, Z1, c1, R.step a1 s1, ok2, ?_⟩
          cases hg : f δ S1 with
          | st => rw [hg] at q; exact q
          | ex j ds S' => rw [hg] at q; exact fun H' Z' c' cls dd a' s' x => q H' Z' c' cls dd (a1.trans a') s' x
          | ok x S2 =>
            rw [hg] at q
            dsimp only at q
            intro xv H2 Z2 c2 a2 s2 rkx
            have hn2 : c2[n]? = some a := (a2.grow s1).cc n a hn
            obtain ⟨sc2, o2, y1, y2, y3, y4, y5⟩ := s2.ok n a hn2
            have y2 := y2.un hlk
            rw [y1] at q
            cases sc2 with
            | lst xs => exact q.elim
            | dct t2 ks2 vs2 =>
              cases t2 with
              | true => exact q.elim
              | false =>
                dsimp only at q
                obtain ⟨kvs2, rfl, rfl, ru⟩ := bd_dK y4
                cases hk : isKey x with
                | false => rw [hk] at q; exact q.elim
                | true =>
                  rw [hk] at q
                  obtain ⟨κ, rfl⟩ := isKey_of hk
                  have hx : xv = kV κ := by
                    cases κ with
                    | inl i => exact rkx.vw.vr.int
                    | inr z => exact rkx.vw.vr.str
                  have lk2 := look_of (gv := G.gv) (H := H2) (Z := Z2) (c := c2) beq_keyD κ ru
                  cases hd : dlook (kvs2.map fun p => keyD p.1) vs2 (keyD κ) with
                  | none => rw [hd] at q; exact q.elim
                  | some dv =>
                    rw [hd] at q lk2
                    cases hv2 : valV kvs2 κ with
                    | none => rw [hv2] at lk2; exact lk2.elim
                    | some u =>
                      rw [hv2] at lk2
                      dsimp only at q lk2
                      obtain ⟨d1, d2⟩ := drop_of (gv := G.gv) (H := H2) (Z := Z2) (c := c2) beq_keyD (k := κ) ru
                      obtain ⟨s3, a3⟩ := s2.cset (o' := .dK (dropK kvs2 κ)) (s' := .dct false (ddrop (kvs2.map fun p => keyD p.1) vs2 (keyD κ)).1 (ddrop (kvs2.map fun p => keyD p.1) vs2 (keyD κ)).2) hlk hn2 trivial (.dK d1 d2)
                      subst hpv
                      exact ⟨kvs2, κ, u, y2, hx, hv2, q u _ Z2 c2 ((a1.trans a2).trans a3) s3 (lk2.mono (a3.grow s2))⟩
    | _ => exact q.elim
end
end VI
namespace VI
open PySem PySem.Spec L2
open He (ga ma)
section
variable {T : Tb} {C : ClT} {nd nc : Nat} {free : List Str} {K : PySem.W.Frag} {mg : Str → Option Value}
/-- an own exception is caught by the base of all -/
theorem Cs.exm0 (c : Cs T C nd nc free K mg) {j : Nat} (hj : j < nc) (h0 : 0 < nc) : PySem.W.exmOne K (.ref (ga K (C.nm j))) (.ref (ga K (C.nm 0))) = some true := by
  obtain ⟨m1, _⟩ := c.cls hj
  obtain ⟨_, xc, ty, _⟩ := c.cls h0
  unfold PySem.W.exmOne PySem.W.kitCls
  dsimp only
  rw [xc.sb, xc.cl, ty]
  simp only [Bool.true_and, beq_self_eq_true, if_true]
  unfold PySem.W.subIn PySem.W.mroIn
  rw [Option.map_eq_some_iff] at m1
  obtain ⟨cd, e1, e2⟩ := m1
  dsimp only
  have e3 : (mroL K (ga K (C.nm 0)) (ga K (C.nm j))).isEmpty = false := by unfold mroL; split <;> rfl
  rw [e1, Option.bind_some, e2, e3]
  show some ((mroL K (ga K (C.nm 0)) (ga K (C.nm j))).contains (.ref (ga K (C.nm 0)))) = some true
  rw [mro_has]
  simp
end
/-- at the level k every def of qs keeps its promise within an except suite -/
def GoodQ (T : Tb) (qs : List Nat) (P : Program) (w : World) (K : PySem.W.Frag) (mg : Str → Option Value) (base : Heap) (G : Gc) (k : Nat) (rn : Nat → List VI.D → Store → Res) : Prop :=
  ∀ (j : Nat), j ∈ qs → ∀ (f : Addr) (fd : FuncData), T.D j K f fd → FnQ P w K mg base k f fd (T.ps j) (spD G (T.ps j).length (T.rk j) (T.pu j) (rn j))
theorem goodQ0 {T : Tb} {qs : List Nat} {P : Program} {w : World} {K : PySem.W.Frag} {mg : Str → Option Value} {base : Heap} {G : Gc} {k : Nat} : GoodQ T qs P w K mg base G k fun _ _ _ => .st :=
  fun j _ f fd F => ⟨fun vs H Q h => h.1, fun A outer s H args us vs Q _ _ _ _ _ h => by obtain ⟨_, _, _, _, _, _, _, _, _, q⟩ := h; exact q.elim⟩
end VI
end

section
set_option Elab.async false
set_option linter.all false
set_option autoImplicit false
set_option maxRecDepth 100000
set_option maxHeartbeats 2000000
/-! VX, 4: a list comprehension over a range while an exception is handled -/
namespace VI
open PySem PySem.Spec L2
open PyProof.Rows
section
variable {X : Cx}
/-- the range's iterator has come -/
def RgQ (X : Cx) (pins : List (Addr × Obj)) (σ : L2.St) (R : It → Hp → Prop) (v : Value) (t : Shared) : Prop :=
  ∃ (b : Addr) (n : Nat) (H' : Hp), v = .ref b ∧ Inv X pins σ H' t ∧ IsRangeIter t.heap b 0 (n : Int) 1 ∧ FpOk X pins H' b ∧ R (Itr 0 n) H'
theorem rangeQ {a : Expr} {ta : TA} {p p2 : Pos} (hg : Gl X "range") (hm : X.mg "range" = none) (ha : PA X [a] ta) (hs : starEach [a] X.env = [(false, eval a X.env)]) {pins : List (Addr × Obj)} {s : Shared} {σ : L2.St} {H : Hp} {R : It → Hp → Prop} (I : Inv X pins σ H s) (h : iRng1 ta σ H R) :
    wpAny (model X.prog X.w) X.A (eval (.Call (.Name "range" p) [a] [] p2) X.env) (fun v s1 => wpAny (model X.prog X.w) X.A (pyIter v) (RgQ X pins σ R) X.xe s1) X.xe s := by
  refine Call_ (ld_blt I hg hm boot_range (PyProof.Rows.callWith_type1 (thn (ha.run p2 pins s σ H _ I h) fun us s1 hz => ?_) hs rfl))
  obtain ⟨vs, H1, I1, r1, j, rfl, q1, q2, q⟩ := hz
  obtain ⟨u, rfl, ru⟩ : ∃ u, us = [u] ∧ RelV (.int j) u := by
    cases r1 with
    | cons r t => cases t; exact ⟨_, rfl, r⟩
  obtain ⟨t, rfl⟩ := ru
  refine call_range_1 (wpAny_pyIter_range (IsRange.new ..) (small_one (by omega) (by omega) q1 q2) ?_)
  generalize hr : ({ cls := .type "range", data := .fields #[.int 0 s1.toks, .int j t, .int 1 (s1.toks + 1)] } : Obj) = ro
  have K1 : Inv X pins σ H1 { s1 with heap := s1.heap.push ro, toks := s1.toks + 2 } := I1.kept fun b o e => Heap.get?_push_of_some _ e
  refine ⟨_, j.toNat, H1, rfl, K1.kept (t' := s1.toks + 2) fun b o e => Heap.get?_push_of_some _ e, ?_, K1.fpOk (Nat.le_refl _) (K1.hok.fresh (Nat.le_refl _)), q⟩
  have e2 : ((j.toNat : Nat) : Int) = Builtin.Range.rangeSize 0 j 1 := by rw [rangeSize_one]; split <;> omega
  rw [e2]
  exact Heap.get?_push_size _ rfl
theorem pe_lcQ {elt tg a : Expr} {ifs : List Expr} {scope : Scope} {own : List (Str × Nat)} {pos p p2 : Pos} {ta : TA} {g : TG} {tt : TT} {te : TE} (hot : HotIn X) (hN : X.N.Nodup) (ok : BlkOk X.N X.env.scope scope own) (hgr : Gl X "range") (hmr : X.mg "range" = none) (ha : PA X [a] ta) (hsa : starEach [a] X.env = [(false, eval a X.env)])
    (hg : ∀ (s : Shared) (H : Hp) (C : Addr) (cl : List (Str × Addr)) (fp : List Addr), PG (X.blk s H scope (compEnvC scope cl C X.env) fp) tg g)
    (ht : ∀ (s : Shared) (H : Hp) (C : Addr) (cl : List (Str × Addr)) (fp : List Addr), PTs (X.blk s H scope (compEnvC scope cl C X.env) fp) ifs tt)
    (he : ∀ (s : Shared) (H : Hp) (C : Addr) (cl : List (Str × Addr)) (fp : List Addr), PE (X.blk s H scope (compEnvC scope cl C X.env) fp) elt te) (hs : ∀ x, foldedSetIterable (.Call (.Name "range" p) [a] [] p2) X.env x = pure x) :
    PE X (.ListComp elt [⟨tg, .Call (.Name "range" p) [a] [] p2, ifs, 0⟩] scope pos) (tLc (iRng1 ta) g tt te (own.map (·.2))) := by
  refine ⟨fun pins s σ H Q I h => ?_⟩
  rw [eval_ListComp]
  have has : ∀ y ∈ scope.names, y.2 = .free → ∃ c, X.env.cells.lookup y.1 = some c := fun y hy e => (ok.free y hy e).elim (fun k => I.ok.has _ (.inl k)) fun k => I.ok.has _ (.inr k)
  refine wpAny_comprehension_free (use := none) rfl hs (closure_ok has) ok.kind (fun y hy e => e ▸ ok.uniq y hy) (thn (rangeQ hgr hmr ha hsa I h) fun xv s1 hx => thn hx fun itv s2 h2 => ?_)
  obtain ⟨it, N, H2, rfl, I2, st2, f2, q⟩ := h2
  refine wpAny_newObj_type (newEnv_comp ?_) (by show 0 ≤ sizeLine; decide)
  -- the new list
  have nD : H2 s2.heap.objs.size = none := I2.hok.fresh (Nat.le_refl _)
  obtain ⟨Wn, ⟨m0, w0⟩, turn⟩ := q s2.heap.objs.size nD
  have hot2 := hot.now I2
  generalize eD : s2.heap.objs.size = D at nD turn w0 ⊢
  let lo : Obj := { cls := .type "list", data := .seq ([] : List Value).toArray }
  have kD : ∀ b o, s2.heap.get? b = some o → (s2.heap.push lo).get? b = some o := fun b o e => Heap.get?_push_of_some _ e
  have I3 : Inv X pins σ (upd H2 D (.lst [])) { s2 with heap := s2.heap.push lo } :=
    I2.laid (t' := s2.toks) kD (Nat.le_of_eq eD) ⟨Nat.zero_le _, [], 0, .nil, eD ▸ Heap.get?_push_size _ rfl⟩
  have itD : it ≠ D := by rw [← eD]; exact Nat.ne_of_lt (Heap.lt_size st2)
  have f3 : FpOk X pins (upd H2 D (.lst [])) it := ⟨(upd_ne itD).trans f2.1, f2.2⟩
  have hot3 : HotNow X.A (upd H2 D (.lst [])) := by
    obtain ⟨b, oe, vs, cls, d, z1, z2, z3⟩ := hot2
    exact ⟨b, oe, vs, cls, d, z1, (upd_ne (ne_of_none z2 nD)).trans z2, z3⟩
  have lt3 : it < (s2.heap.push lo).objs.size := by rw [Heap.size_push]; exact Nat.lt_succ_of_lt (Heap.lt_size st2)
  generalize e3 : ({ s2 with heap := s2.heap.push lo } : Shared) = s3 at I3
  have h3 : s3.heap = s2.heap.push lo := by rw [← e3]
  have st3 : IsRangeIter s3.heap it 0 (N : Int) 1 := by rw [h3]; exact kD _ _ st2
  rw [← h3] at lt3
  have I4 := block_start (fp := [it]) I3 ok hN fun b hb => (List.mem_singleton.mp hb) ▸ ⟨f3, lt3⟩
  have pg := hg s3 (upd H2 D (.lst [])) s3.heap.objs.size (cellsFrom (s3.heap.objs.size + 1) scope.names (cloFrom X.env.cells scope.names [])) [it]
  have pt := ht s3 (upd H2 D (.lst [])) s3.heap.objs.size (cellsFrom (s3.heap.objs.size + 1) scope.names (cloFrom X.env.cells scope.names [])) [it]
  have pe := he s3 (upd H2 D (.lst [])) s3.heap.objs.size (cellsFrom (s3.heap.objs.size + 1) scope.names (cloFrom X.env.cells scope.names [])) [it]
  show codeAny _ _ (.compStart _ 0 (.ref it) (.ref D) (compEnvC scope (cellsFrom (s3.heap.objs.size + 1) scope.names (cloFrom X.env.cells scope.names [])) s3.heap.objs.size X.env)) (compPost (model X.prog X.w) X.A X.xe none (EP X pins σ Q) (.ref D) s3.heap.objs.size) _
  generalize ec : compEnvC scope (cellsFrom (s3.heap.objs.size + 1) scope.names (cloFrom X.env.cells scope.names [])) s3.heap.objs.size X.env = ce at I4 pg pt pe ⊢
  have cL : ce.locals = s3.heap.objs.size := by rw [← ec]; rfl
  generalize upd H2 D (.lst []) = H3 at I3 I4 pg pt pe w0 f3 hot3
  have hotY : HotIn (X.blk s3 H3 scope ce [it]) := hot3
  have memY : it ∈ (X.blk s3 H3 scope ce [it]).ex := List.mem_singleton.mpr rfl
  -- the iterator is the block's own
  have stat : ∀ {σ' : L2.St} {H' : Hp} {t : Shared}, Inv (X.blk s3 H3 scope ce [it]) [] σ' H' t → H' it = none → FpOk (X.blk s3 H3 scope ce [it]) [] H' it := fun I' hn =>
    ⟨hn, (I'.ok.exf it memY).1, I'.ok.exfs it memY, .inl memY, fun x k e => (I'.ok.exf it memY).2 x k e, fun r hr => absurd (show r ∈ ([] : List (Addr × Obj)) ++ [] from hr) (by simp)⟩
  have start4 : ∀ t4 : Shared, t4 = { s3 with heap := pushCells (s3.heap.push { cls := .type "dict", data := .dict #[] }) scope.names } → IsRangeIter t4.heap it 0 (N : Int) 1 := fun t4 e => by
    rw [e]
    exact pushCells_keeps _ _ _ _ (Heap.get?_push_of_some _ st3)
  generalize e4 : ({ s3 with heap := pushCells (s3.heap.push { cls := .type "dict", data := .dict #[] }) scope.names } : Shared) = s4 at I4 start4 ⊢
  have st4 := start4 s4 rfl
  have loop : codeAny (model X.prog X.w) X.A (.compLoop (.ListComp elt [⟨tg, .Call (.Name "range" p) [a] [] p2, ifs, 0⟩] scope pos) 0 (.ref it) (.ref D) ce) (compPost (model X.prog X.w) X.A X.xe none (EP X pins σ Q) (.ref D) s3.heap.objs.size) s4 := by
    refine compLoop_any (fun n t => ∃ (i : Nat) (H' : Hp), Inv (X.blk s3 H3 scope ce [it]) [] (wipe σ (own.map (·.2))) H' t ∧ IsRangeIter t.heap it (i : Int) ((N : Int) - (i : Nat)) 1 ∧ H' it = none ∧ Wn i n H') ?_ m0 ⟨0, H3, I4, by simpa using st4, f3.1, w0⟩
    rintro n s5 ⟨i, H5, I5, st5, n5, w5⟩
    obtain ⟨g0, g1, g2, g3, g4, g5⟩ := stat I5 n5
    rcases turn i n H5 w5 with ⟨stop, fin⟩ | ⟨go, Nx, hNx, step⟩
    · have stop : N ≤ i := stop
      obtain ⟨hb, hat⟩ := (hotY.now I5).at' I5
      refine HotX.pyNext_range_end_hot hat st5 (by omega) fun h' keep => ?_
      have I6 : Inv (X.blk s3 H3 scope ce [it]) [] (wipe σ (own.map (·.2))) H5 { s5 with heap := h' } := I5.turned (t' := s5.toks) (fun b o _ e => keep b o e) g0 g1 g3 g4 g5
      have I7 : Inv X pins σ H5 { s5 with heap := h' } := I3.call' (ch := [it]) I6.os I6.base I6.hok I6.bare fun b hb => by
        rw [List.mem_singleton.mp hb]
        exact ⟨f3.2.2.2.1, f3.2.1, f3.2.2.2.2.1, f3.2.2.2.2.2⟩
      have nC : H5 s3.heap.objs.size = none := by
        have z : H5 ce.locals = none := I6.free
        rwa [cL] at z
      obtain ⟨mm, hn, _⟩ := I6.loc
      have hn : h'.Ns ce.locals mm := hn
      rw [cL] at hn
      obtain ⟨_, k1, k2, k3, k4, k5⟩ : FpOk X pins H5 s3.heap.objs.size := I3.fpOk (Nat.le_refl _) nC
      exact ⟨mm, hn, fun h'' sb => ⟨.ref D, H5, I7.turned (t' := s5.toks) (fun b o hb e => (sb.2 b hb).trans e) nC k1 k3 k4 k5, rfl, fin⟩⟩
    · have go : i < N := go
      refine wpAny_pyNext_range_item st5 (by omega) fun h' st6 sb => ?_
      have I6 : Inv (X.blk s3 H3 scope ce [it]) [] (wipe σ (own.map (·.2))) H5 { s5 with heap := h', toks := s5.toks + 1 } := I5.turned (fun b o hb e => (sb.2 b hb).trans e) g0 g1 g3 g4 g5
      have st6 : IsRangeIter h' it ((i + 1 : Nat) : Int) ((N : Int) - ((i + 1 : Nat) : Nat)) 1 := by
        have e1 : ((i + 1 : Nat) : Int) = (i : Int) + 1 := by omega
        have e2 : (N : Int) - ((i + 1 : Nat) : Nat) = (N : Int) - (i : Nat) - 1 := by omega
        rw [e2, e1]
        exact st6
      refine go_of (s := { s5 with heap := h', toks := s5.toks + 1 }) (n := "range_iterator") st6 rfl rfl (by decide) ?_
      have I7 := I6.pinned (fp := [it]) (fun b hb => (List.mem_singleton.mp hb) ▸ stat I6 n5) (fun b hb => (List.mem_singleton.mp hb) ▸ ⟨_, st6, fun v z => nomatch (show Data.fields _ = Data.cell v from z)⟩)
      refine thnF (pg.run _ _ _ H5 (.int ((0 : Int) + (i : Nat))) (.int (i : Int) s5.toks) _ I7 ⟨s5.toks, by rw [Int.zero_add]⟩ (step _ H5 ⟨rfl, rfl⟩)) fun _ s8 ⟨σ8, H8, I8, hw8, q8⟩ => ?_
      refine thnF (pt.run _ s8 σ8 H8 _ I8 q8) fun b s9 ⟨H9, I9, q9⟩ => ?_
      have next : ∀ {t : Shared} {H' : Hp}, Inv (X.blk s3 H3 scope ce [it]) ([] ++ pinsAt [it] h') σ8 H' t → Nx H' → ∃ mm, mm < n ∧ ∃ (i : Nat) (H' : Hp), Inv (X.blk s3 H3 scope ce [it]) [] (wipe σ (own.map (·.2))) H' t ∧ IsRangeIter t.heap it (i : Int) ((N : Int) - (i : Nat)) 1 ∧ H' it = none ∧ Wn i mm H' := fun {t H'} I' nx => by
        obtain ⟨m', hm, w'⟩ := hNx H' nx
        obtain ⟨z1, z2, _⟩ := I'.pin (it, _) (List.mem_append_right _ (List.mem_append_right _ (mem_pinsAt (List.mem_singleton.mpr rfl) st6)))
        refine ⟨m', hm, i + 1, H', (I'.unpinned (pins := [])).weak (by rw [wipe_length, ← wipe_length σ8 (own.map (·.2)), hw8, wipe_length]) (fun j v e => ?_), z1, z2, w'⟩
        rw [← hw8] at e
        exact (wipe_some e).1
      cases b with
      | false =>
        simp only [Bool.false_eq_true, if_false] at q9 ⊢
        exact next I9 q9
      | true =>
        simp only [if_true] at q9 ⊢
        refine thnF (pe.run _ s9 σ8 H9 _ I9 q9) fun z s10 ⟨yv, H10, I10, r10, acc, hD10, hz10, nx⟩ => ?_
        exact L2.app_ok (X := X.blk s3 H3 scope ce [it]) I10 hD10 hz10 r10 fun s11 I11 => next I11 nx
  exact codeAny_compStart_list loop (wpAny_pyIter_rangeiter st4 loop)
end
end VI
namespace VI
open PySem PySem.Spec L2
section
variable {G : Gc} {W : WX} {pv : Bool} {X : Cx} {lk : Addr → Prop}
theorem rng1_tIt {f : Dl → Store → Ress} {st : Bool} {okm : List Md → Prop} (hl : ∀ δ S ds S', f δ S = .ok ds S' → ds.length = 1) {σ : L2.St} {H : Hp} {R : It → Hp → Prop} (q : tIt G W pv (fRng f) okm σ H R) : iRng1 (tAs G W pv f st okm) σ H R := by
  refine it_tAs (r := fun vs H1 R => ∃ j : Int, vs = [.int j] ∧ -(2 ^ 62) ≤ j ∧ j < 2 ^ 62 ∧ R (Itr 0 j.toNat) H1) (fun δ S => ?_) q
  cases hf : f δ S with
  | st => unfold fRng; rw [hf]
  | ex j ds S' => unfold fRng; rw [hf]
  | ok ds S' =>
    have := hl δ S ds S' hf
    match ds, this with
    | [d], _ =>
      cases d with
      | int j =>
        by_cases hb : -(2 ^ 62) ≤ j ∧ j < 2 ^ 62
        · refine .inr ⟨rngD 0 j.toNat, by unfold fRng; rw [hf]; dsimp only; rw [if_pos hb], fun H Z c vs R s ws _ q => ?_⟩
          obtain ⟨v, rfl, h1⟩ := vws1 ws
          exact ⟨j, by rw [h1.vr.int], hb.1, hb.2, q _ (walk_rng 0 _)⟩
        · exact .inl (by unfold fRng; rw [hf]; dsimp only; rw [if_neg hb])
      | _ => exact .inl (by unfold fRng; rw [hf])
/-- [e for x in range(a) if c] while an exception is handled -/
theorem pe_lcQD {elt a : Expr} {x : Str} {px p p2 : Pos} {i : Nat} {ifs : List Expr} {scope : Scope} {own : List (Str × Nat)} {pos : Pos} {fa : Dl → Store → Ress} {fc fe : Dl → Store → Res} {k : Kd} {st : Bool} {oki okc oke : List Md → Prop} (hot : HotIn X) (hgr : Gl X "range") (hmr : X.mg "range" = none) (ha : PA X [a] (tAs G W pv fa st oki))
    (hl : ∀ δ S ds S', fa δ S = .ok ds S' → ds.length = 1) (hsa : starEach [a] X.env = [(false, eval a X.env)]) (hN : X.N.Nodup) (ok : BlkOk X.N X.env.scope scope own) (hk : k ≠ .b) (hv : ∀ j ∈ (Tgt.one i).slots, j ∈ own.map (·.2))
    (hg : ∀ (s : Shared) (H : Hp) (C : Addr) (cl : List (Str × Addr)) (fp : List Addr), NameOk (X.blk s H scope (compEnvC scope cl C X.env) fp) i x) (ht : ∀ (s : Shared) (H : Hp) (C : Addr) (cl : List (Str × Addr)) (fp : List Addr), PTs (X.blk s H scope (compEnvC scope cl C X.env) fp) ifs (tTst G W0 pv fc okc))
    (he : ∀ (s : Shared) (H : Hp) (C : Addr) (cl : List (Str × Addr)) (fp : List Addr), PE (X.blk s H scope (compEnvC scope cl C X.env) fp) elt (tE G W0 pv fe k oke)) (hs : ∀ x, foldedSetIterable (.Call (.Name "range" p) [a] [] p2) X.env x = pure x) :
    PE X (.ListComp elt [⟨.Name x px, .Call (.Name "range" p) [a] [] p2, ifs, 0⟩] scope pos) (tE G W pv (fLc (.one i) fc fe (fRng fa)) .o (okLc (.one i) (own.map (·.2)) oki okc oke)) :=
  (pe_lcQ (ta := tAs G W pv fa st (okLc (.one i) (own.map (·.2)) oki okc oke)) hot hN ok hgr hmr (ha.impD fun σ H Q q => by
    obtain ⟨E, m, δ, S, Z, c, R, ok, q⟩ := q
    exact ⟨E, m, δ, S, Z, c, R, ok.1, q⟩) hsa (fun s H C cl fp => pg_nameD (G := G) (pv := pv) hN (hg s H C cl fp)) ht he hs).impD fun σ H Q q => by
      have q2 : tLc (tIt G W pv (fRng fa) (okLc (.one i) (own.map (·.2)) oki okc oke)) (tTg G pv (.one i)) (tTst G W0 pv fc okc) (tE G W0 pv fe k oke) (own.map (·.2)) σ H Q := lc_tE (wi := tIt G W pv (fRng fa) (okLc (.one i) (own.map (·.2)) oki okc oke)) hk hv (fun m h => h.2) q
      unfold tLc at q2 ⊢
      exact rng1_tIt hl q2
end
end VI
end

section
set_option Elab.async false
set_option linter.all false
set_option autoImplicit false
set_option maxRecDepth 100000
set_option maxHeartbeats 2000000
/-! VX, 5: a dict of one key and its like compared -/
namespace VI
open PySem PySem.Spec L2
section
variable {G : Gc} {W : WX} {pv : Bool} {X : Cx}
def rEqDx : R2 := fun x y H Q => ∃ (a b : Addr) (k : Key) (i : Int), x = .ref a ∧ y = .ref b ∧ Rd H a (.dK [(k, .int i)]) ∧ Rd H b (.dK [(k, .int i)]) ∧ Q (.bl true) H
theorem op_eqDx (hu : X.A.units < cLine) : OpR X (compareOp .Eq) rEqDx := by
  intro pins s σ H x y v u Q I rx ry h
  obtain ⟨a, b, k, i, rfl, rfl, ea, eb, q⟩ := h
  cases (show v = Value.ref a from rx)
  cases (show u = Value.ref b from ry)
  obtain ⟨_, ya, va, ra, da⟩ := dk_rd I.hok ea
  obtain ⟨_, yb, vb, rb, db⟩ := dk_rd I.hok eb
  refine PySem.W.keq_eq (knd := mixKind X.prog X.w) (r := true) ya yb da db hu (fun _ => hits_all rb ra fun p hp => ?_) (fin_bl I q (by simp [ra.length.symm.trans rb.length]))
  rw [List.mem_singleton] at hp
  subst hp
  exact ⟨valV_pos rfl, rfl⟩
def gEqd (S : Store) (d d' : D) : Option D := match der S d, der S d' with
  | .dct false [k] [.int i], .dct false [k'] [.int j] => if D.beq k k' && decide (i = j) then some (.bl true) else none
  | _, _ => gEq false S d d'
theorem bd_one {gv : Gv} {H : Hp} {Z : Addr → Prop} {c : List Addr} {o : HO} {k : D} {i : Int} (b : Bd gv H Z c o (.dct false [k] [.int i])) : ∃ κ : Key, k = keyD κ ∧ o = .dK [(κ, .int i)] := by
  obtain ⟨kvs, rfl, e, r⟩ := bd_dK b
  match kvs, e, r with
  | [p], e, r =>
    cases r with
    | cons r t =>
      obtain ⟨κ, v⟩ := p
      have hv : v = .int i := (Vr.rep r).int
      subst hv
      exact ⟨κ, by simpa using e, rfl⟩
theorem eqd_ok : Op2 G (fun x y H Q => rEqDx x y H Q ∨ (rEq x y H Q ∨ rEqD X.K x y H Q)) gEqd .z := by
  intro pu H Z c S v w d d' e Q s h h' hg q
  unfold gEqd at hg
  split at hg
  · rename_i k i k' j e1 e2
    split at hg
    · rename_i hb
      rw [Bool.and_eq_true, decide_eq_true_eq] at hb
      obtain ⟨hb, rfl⟩ := hb
      cases hg
      have h1 := h.der s
      have h2 := h'.der s
      rw [e1] at h1
      rw [e2] at h2
      obtain ⟨a, o, rfl, ha, ba⟩ := h1.dct
      obtain ⟨b, o', rfl, hb', bb⟩ := h2.dct
      obtain ⟨κ, rfl, rfl⟩ := bd_one ba
      obtain ⟨κ', rfl, rfl⟩ := bd_one bb
      rw [beq_keyD, decide_eq_true_eq] at hb
      subst hb
      exact .inl ⟨a, b, κ, i, rfl, rfl, ha.rd, hb'.rd, q _ H Z Adv.refl s (.bl true)⟩
    · cases hg
  · exact .inr (eq_ok pu H Z c S v w d d' e Q s h h' hg q)
theorem pe_eqdD {a b : Expr} {pos : Pos} {f f' : Dl → Store → Res} {k1 k2 : Kd} {okm okm' : List Md → Prop} (hu : X.A.units + 64 < cLine) (ha : PE X a (tE G W pv f k1 okm)) (hb : PE X b (tE G W pv f' k2 okm')) : PE X (.Compare a [.Eq] [b] pos) (tE G W pv (fin2 f f' gEqd) .z fun m => okm m ∧ okm' m) :=
  pe_cmpD ((op_eqDx (by omega)).or (op_eq.or (op_eqD hu))) eqd_ok ha hb (by unfold behindInMarks; cases b <;> simp <;> rfl)
end
end VI
end

section
set_option Elab.async false
set_option linter.all false
set_option autoImplicit false
set_option maxRecDepth 100000
set_option maxHeartbeats 2000000
/-! VJ, 1: raise in a def; a try with several clauses, the exception held -/
namespace VI
open PySem PySem.Spec L2
/-- raise j(f) -/
def sRaise (j : Nat) (f : Dl → Store → Res) : Dl → Store → SRes := fun δ S => match f δ S with
  | .ok d S1 => .ex j [d] S1
  | .ex j' ds S' => .ex j' ds S'
  | .st => .st
section
variable {G : Gc} {W : WX} {pv : Bool} {X : Cx} {rk : Kd} {m m' : List Md}
theorem mk_zc {pins : List (Addr × Obj)} {σ : L2.St} {Q : XK} {u : Value} {s' : Shared} (h : L2N.MkP X pins σ Q u s') : MkP X pins σ Q u s' := by
  obtain ⟨a, oe, vs, sI, H', cls, d, h1, h2, h3, h4, h5, h6, h7, h8, h9, h10, h11, h12, h13⟩ := h
  exact ⟨a, oe, vs, sI, H', cls, d, h1, h2, h3, h4, h5, h6.zc, h7, h8, h9, h10, h11, h12, h13⟩
theorem ps_raiseD {j k : Nat} {x fld p0 p1 : Str} {C fI : Addr} {fd : FuncData} {e : Expr} {p pos pos2 : Pos} {f : Dl → Store → Res} {okm : List Md → Prop} (hcalm : X.calm = true) (tk : Takes X W)
    (T : OexC X.K C) (iC : PySem.W.findIn X.K (.ref C) "__init__" = some (some (.ref fI))) (tI : PySem.W.typeIn X.K (.ref fI) = some (.type "function")) (F1 : FnOk X.prog X.w X.K X.mg X.base CX0 k fI fd [p0, p1] (spIni X.K fld)) (hr : Room (k + 1) X.A) (hb : Binds X.K fd [p0, p1] [])
    (hno : PySem.W.findIn X.K (.ref C) fld = some none) (hg : Gl X x) (hm : X.mg x = some (.ref C)) (hxc : G.gv.x j = some (C, [fld])) (hok : okm m) (he : PE X e (tE G W pv f .z okm))
    (hse : starEach [e] X.env = (false, eval e X.env) :: starEach [] X.env) (hdb : (x == ("__debug__" : Str)) = false) :
    PS X (.Raise (some (.Call (.Name x p) [e] [] pos)) none pos2) (tS G W pv rk (sRaise j f) m m') :=
  (ps_raise hcalm tk (t := fun σ H Q => tE G W pv f .z okm σ H fun v H1 => ∀ dx, H1 dx = none → Q (.ref C) (some dx) (upd H1 dx (.xd [(fld, v)])))
    (fun pins s σ H Q I h => wpAny_mono (pmkN T iC tI F1 hr hb pass0 hno hg hm he hse hdb pins s σ H Q I h) (fun u s1 hu => mk_zc hu) fun _ _ z => z)).impD fun D σ H q => by
    obtain ⟨E, δ, S, Z, c, R, q⟩ := q
    refine ⟨E, m, δ, S, Z, c, R, hok, ?_⟩
    unfold sRaise at q
    cases hfe : f δ S with
    | st => rw [hfe] at q; exact q
    | ex j' ds S' => rw [hfe] at q; exact fun H' Z' c' cls dd a s x => q σ H' Z' c' cls dd (R.adv.trans a) s x
    | ok d S1 =>
      rw [hfe] at q
      intro v H1 Z1 c1 a1 s1 rv dx hdx
      have rv : Rep G.gv H1 Z1 c1 v d := rv
      have A1 : Adv pv H1 Z1 c1 (upd H1 dx (.xd [(fld, v)])) Z1 c1 := Adv.new hdx
      exact q σ _ Z1 c1 (.ref C) (some dx) ((R.adv.trans a1).trans A1) (s1.new hdx) ⟨C, [fld], hxc, rfl, .inr ⟨dx, [v], rfl, rfl, upd_same, .cons (rv.mono (A1.grow s1)) .nil⟩⟩
end
/-! ### several clauses -/
section
variable {X : Cx} {pins : List (Addr × Obj)} {σ : L2.St} {H : Hp} {s : Shared}
/-- what the body of such a try may let out: a clause: its class, its name's slot, its suite's reading -/
def wCl (K : PySem.W.Frag) (n : Nat) (D : Ends) : List (Value × Nat × TS) → WX
  | [] => fun _ _ _ _ => False
  | (c, i, ts) :: r => fun cls d σ H => ∃ b, PySem.W.exmOne K cls c = some b ∧ (b = true → σ.length = n → ∀ a, H a = none → ts (Ends.gone i D) (σ.set i (some (.ref a))) (upd H a (ExV cls d a))) ∧ (b = false → wCl K n D r cls d σ H)
inductive ClsX (X : Cx) : List ExceptHandler → List (Value × Nat × TS) → Prop
  | nil : ClsX X [] []
  | cons {x n : Str} {c : Value} {i : Nat} {ts : TS} {b₀ : Stmt} {suite : List Stmt} {np pos' : Pos} {hds : List ExceptHandler} {l : List (Value × Nat × TS)} (hi : X.N[i]? = some n) (hln : X.env.kindOf n = some .local) (hc : Names X x c)
      (hsu : ∀ (a : Addr) (pn : List (Addr × Obj)), PSs (X.suite a pn) (b₀ :: suite) ts) (r : ClsX X hds l) : ClsX X (.ExceptHandler (some (.Name x np)) (some n) (b₀ :: suite) pos' :: hds) ((c, i, ts) :: l)
theorem ps_tryL {body : List Stmt} {h₀ : ExceptHandler} {hds : List ExceptHandler} {l : List (Value × Nat × TS)} {pos : Pos} {tb : WX → TS} (hs : X.stack = X.env :: X.outer) (hf : X.env.frame = some X.env.locals) (hex : X.ex = []) (hN : X.N.Nodup)
    (hb : ∀ (W : WX) (pn : List (Addr × Obj)) (xe : Value → Shared → Prop), Takes (X.tr pn xe) W → PassesOwn (model X.prog X.w) X.A X.env xe → PSs (X.tr pn xe) body (tb W)) (hh : ClsX X (h₀ :: hds) l) :
    PS X (.Try body (h₀ :: hds) [] [] pos) (fun D σ H => tb (wCl X.K X.N.length D l) D σ H) := by
  refine ⟨fun pins s σ H D I h => ?_⟩
  have ok := I.ok
  have hfr : X.A.frames = some (X.env :: X.outer) := ok.frames.trans (congrArg some hs)
  let xe' : Value → Shared → Prop := fun e t1 => wpAny (model X.prog X.w) X.A (noteFrame e X.env) (fun _ t2 => wpAny (model X.prog X.w) X.A (setFlight e none) (fun _ t3 =>
      wpAny (model X.prog X.w) X.A (handleBy e X.env (h₀ :: hds)) (SP X pins D) X.xe t3) X.xe t2) X.xe t1
  have catch_ : Takes (X.tr (X.pn ++ pins) xe') (wCl X.K X.N.length D l) := by
    rintro u s' ⟨a, B, sI, pins', σ1, H1, cls, d, rfl, J0, nb, up, sky, na, os, ag, wish⟩
    have J : Inv X pins σ1 H1 sI := J0.ofTry ok
    have sky1 : Sky B (X.env :: X.outer) a (Zc cls d) X.env.locals s'.heap := hs ▸ sky
    show wpAny (model X.prog X.w) X.A (noteFrame (.ref a) X.env) (fun _ t2 => wpAny (model X.prog X.w) X.A (setFlight (.ref a) none) _ _ t2) _ s'
    refine Sky.land Zc.steady hfr hf sky1 fun h3 fl3 up3 => ?_
    have J3 : Inv X pins σ1 H1 { s' with heap := h3 } := J.landed nb fl3.1 (up.trans up3) os ag
    have S3 : Inv (X.suite a (X.pn ++ pins)) [] σ1 H1 { s' with heap := h3 } := inv_suite J3
    obtain ⟨o3, v3, ho3, hz3, _⟩ := fl3.there
    have nB : B.get? a = none := fl3.2.1
    have look : PySem.W.Looks (model X.prog X.w) h3 (typeOf (.ref a)) cls := fun A Q E s k q => wpAny_typeOf_ref (k _ _ ho3) (hz3.1.symm ▸ q)
    have go : ∀ {hds' : List ExceptHandler} {l' : List (Value × Nat × TS)}, ClsX X hds' l' → wCl X.K X.N.length D l' cls d σ1 H1 → wpAny (model X.prog X.w) X.A (handleBy (.ref a) X.env hds') (SP X pins D) X.xe { s' with heap := h3 } := by
      intro hds' l' hk
      induction hk with
      | nil => exact fun w => w.elim
      | @cons x n c i ts b₀ suite np pos' hds2 l2 hi hln hc hsu r ih =>
        rintro ⟨b, hm, hyes, hno⟩
        refine wpAny_handleBy_cons (codeAny_handlers_test ?_) (fun q => by cases q)
        have yes := PySem.W.exm_one (M := model X.prog X.w) J3.kIn look hm
        have test : ∀ {Q : Value → Shared → Prop} {E : Value → Shared → Prop}, Q c { s' with heap := h3 } → wpAny (model X.prog X.w) (X.A.mark (some (.ref a))) (eval (.Name x np) X.env) Q E { s' with heap := h3 } := fun {Q E} q => by
          obtain ⟨hg, hdbg, hm1 | ⟨hm1, hv, hnn⟩⟩ := hc
          · exact ld_glob S3 hg hm1 q hdbg
          · exact ld_blt S3 hg hm1 hv q hnn hdbg
        refine test (yes.here ?_)
        cases b with
        | false => exact ih (hno rfl)
        | true =>
          refine codeAny_handlers_suite_as ?_
          refine HandSPX.lands_againZ fl3 fun h4 fl4 up4 => ?_
          have J4 : Inv X pins σ1 H1 { s' with heap := h4 } := J.landed nb fl4.1 ((up.trans up3).trans up4) os ag
          obtain ⟨o4, v4, ho4, hz4, hd4⟩ := fl4.there
          have nfr : a ∉ frs X.stack := fun z => by
            rw [hs] at z
            obtain ⟨_, o', e', hnf⟩ := fl4.2.2.1.mem z
            rw [ho4] at e'
            cases e'
            exact hnf _ hd4
          have nI : sI.heap.get? a = none := by
            cases e : sI.heap.get? a with
            | none => rfl
            | some o => exact absurd ((nb a o e nfr).symm.trans nB) (fun z => nomatch z)
          have n0 : X.s_0.heap.get? a = none := by
            cases e : X.s_0.heap.get? a with
            | none => rfl
            | some o =>
              obtain ⟨o', e'⟩ := J.base.there a o e (hex ▸ fun z => nomatch z)
              exact absurd (e'.symm.trans nI) (fun z => nomatch z)
          have nL : a ≠ X.env.locals := fun z => nfr (by rw [hs]; exact List.mem_filterMap.mpr ⟨X.env, List.mem_cons_self, z ▸ hf⟩)
          have nC : ∀ y k, X.env.cells.lookup y = some k → k ≠ a := fun y k e z => by
            obtain ⟨v, o', e1, e2⟩ := J4.cell y k e
            rw [z] at e1
            have e1 : h4.get? a = some o' := e1
            rw [ho4] at e1
            cases e1
            rw [hd4] at e2
            cases e2
          have np' : ∀ p ∈ X.pn ++ pins, p.1 ≠ a := fun p hp z => by
            have q := (J.pin p hp).1
            rw [z, nI] at q
            cases q
          have T4 : Inv X pins σ1 (upd H1 a (ExV cls d a)) { s' with heap := h4 } := inv_track J4 na n0 nL nC np' (exV_ok ho4 hz4 hd4)
          refine store_ok (X := X.suite a (X.pn ++ pins)) (v := .ref a) (inv_suite (a := a) T4) hN hi (.inl hln) rfl (fun s5 S5 => ?_) (.inr hln)
          refine wpAny_mono ((hsu a (X.pn ++ pins)).run [] s5 _ _ _ S5 (hyes rfl J4.len a na)) (fun f s6 hsp => ?_) (fun _ _ z => False.elim z)
          have end_ : ∀ {σ6 : L2.St} {H6 : Hp} {Q : Shared → Prop}, Inv (X.suite a (X.pn ++ pins)) [] σ6 H6 s6 → (∀ s7, Inv X pins (σ6.set i none) H6 s7 → Q s7) →
              wpAny (model X.prog X.w) X.A (do bindName X.env n .none; unbindBehindTheSuite X.env n pos') (fun _ s7 => Q s7) X.xe s6 := fun S6 k => gone_ok (inv_unsuite ok S6) hN hi hln k
          cases f with
          | ret u => exact let ⟨v6, σ6, H6, S6, r6, q6⟩ := hsp; end_ S6 fun s7 J7 => ⟨v6, _, H6, J7, r6, q6⟩
          | next => exact let ⟨σ6, H6, S6, q6⟩ := hsp; end_ S6 fun s7 J7 => ⟨_, H6, J7, q6⟩
          | brk => exact let ⟨σ6, H6, S6, q6⟩ := hsp; end_ S6 fun s7 J7 => ⟨_, H6, J7, q6⟩
          | cont => exact let ⟨σ6, H6, S6, q6⟩ := hsp; end_ S6 fun s7 J7 => ⟨_, H6, J7, q6⟩
    exact go hh wish
  have run := (hb (wCl X.K X.N.length D l) (X.pn ++ pins) xe' catch_ PassesOwn.looking).run [] s σ H D (I.toTry _) h
  refine wpAny_Try_except (wpAny_mono run (fun f s1 hsp => ?_) fun e s1 he => he)
  cases f with
  | ret u => exact let ⟨v, σ', H', J', r, q⟩ := hsp; ⟨v, σ', H', J'.ofTry ok, r, q⟩
  | next => exact let ⟨σ', H', J', q⟩ := hsp; wpAny_execs_nil ⟨σ', H', J'.ofTry ok, q⟩
  | brk => exact let ⟨σ', H', J', q⟩ := hsp; ⟨σ', H', J'.ofTry ok, q⟩
  | cont => exact let ⟨σ', H', J', q⟩ := hsp; ⟨σ', H', J'.ofTry ok, q⟩
end
end VI
end

section
set_option Elab.async false
set_option linter.all false
set_option autoImplicit false
set_option maxRecDepth 100000
set_option maxHeartbeats 2000000
/-! VJ, 2: what a law's def makes of a lambda that it is handed: told, or the exception's class and what it keeps -/
namespace VI
open PySem PySem.Spec L2 LamX
open PyProof.Rows (envOfC)
/-- the clauses: class, its word, its field -/
def wTold (K : PySem.W.Frag) (Q : VK) : List (Addr × Str × Str) → XK
  | [] => fun _ _ _ => False
  | (C, key, fld) :: r => fun cls d H => ∃ b, PySem.W.exmOne K cls (.ref C) = some b ∧ (b = true → ∃ (C1 dd : Addr) (fs : List (Str × V)) (v : V), cls = .ref C1 ∧ d = some dd ∧ XcC K C1 ∧ PySem.W.findIn K (.ref C1) fld = some none ∧ H dd = some (.xd fs) ∧ fs.lookup fld = some v ∧
      ∀ a tp, H a = none → upd H a (ExV cls d a) tp = none → Q (.ref tp) (upd (upd H a (ExV cls d a)) tp (.tup [.str "bad", .str key, v]))) ∧ (b = false → wTold K Q r cls d H)
def TToldL (K : PySem.W.Frag) (cl : List (Addr × Str × Str)) : (XK → Hp → VK → Prop) → Hp → VK → Prop := fun tl H Q =>
  tl (wTold K Q cl) H fun v H1 => ∀ tp, H1 tp = none → Q (.ref tp) (upd H1 tp (.tup [.str "told", v]))
section
variable {X : Cx}
abbrev tsCl (K : PySem.W.Frag) (key fld : Str) : TS := tAsg (tTup (tCons (tC (.str "bad")) (tCons (tC (.str key)) (tCons (tXa K fld (tVar 2)) tNil)))) (gName 1)
/-- one clause: its wish -/
theorem wcl_told {K : PySem.W.Frag} {D : Ends} {Q : VK} (hD : ∀ x v H, D.nx [x, some v, none] H ↔ Q v H) : ∀ (cl : List (Addr × Str × Str)) {cls : Value} {d : Option Addr} {σ : L2.St} {H : Hp}, wTold K Q cl cls d H → wCl K 3 D (cl.map fun z => (Value.ref z.1, 2, tsCl K z.2.1 z.2.2)) cls d σ H
  | [], _, _, _, _, h => h
  | (C, key, fld) :: r, cls, d, σ, H, ⟨b, h1, h2, h3⟩ => by
    refine ⟨b, h1, fun hb hl a ha => ?_, fun hb => wcl_told hD r (h3 hb)⟩
    match σ, hl with
    | [y0, y1, y2], _ =>
      obtain ⟨C1, dd, fs, v, rfl, rfl, xc, hno, hd, hl, q⟩ := h2 hb
      have nd : dd ≠ a := fun z => by rw [z, ha] at hd; cases hd
      refine ⟨.ref a, rfl, a, C1, dd, fs, v, rfl, .inl upd_same, xc, hno, by rw [upd_ne nd]; exact hd, hl, by show 3 ≤ sizeLine; rw [sizeLine_eq]; omega, fun tp htp => ?_⟩
      exact (hD _ _ _).mpr (q a tp ha htp)
theorem told3 {Ng : List Str} {x a fnd ex q x1 x2 x3 key1 key2 key3 f1 f2 f3 : Str} {sg : Scope} {g C1 C2 C3 : Addr} {cdg : Value} {j1 j12 j13 j22 j23 j32 j33 k0 k1 k2 k3 : Nat} {b11 b12 b13 b14 b15 b16 b17 b18 b19 b21 b22 b23 b24 b25 b26 b27 b28 b29 b31 b32 b33 b34 b35 b36 b37 b38 b39 a1 a2 a3 a4 a5 a6 a7 a8 a9 : Pos} (hNg : Ng = [a, fnd, ex]) (hN : Ng.Nodup)
    (l0 : sg.names.lookup a = some .local) (l1 : sg.names.lookup fnd = some .local) (l2 : sg.names.lookup ex = some .local) (d1 : (fnd == ("__debug__" : Str)) = false) (d2 : (ex == ("__debug__" : Str)) = false) (c1 : (fnd == ("__classdict__" : Str)) = false) (c2 : (ex == ("__classdict__" : Str)) = false)
    (g1 : sg.names.lookup x1 = some .globalImplicit) (g2 : sg.names.lookup x2 = some .globalImplicit) (g3 : sg.names.lookup x3 = some .globalImplicit) (m1 : X.mg x1 = some (.ref C1)) (m2 : X.mg x2 = some (.ref C2)) (m3 : X.mg x3 = some (.ref C3))
    (e1 : (x1 == ("__debug__" : Str)) = false) (e2 : (x2 == ("__debug__" : Str)) = false) (e3 : (x3 == ("__debug__" : Str)) = false)
    (w0 : ∀ L, swapsWith (.Tuple [.Constant (.str "told") j1 a2, .Call (.Name a a3) [] [] a4] k0 a5) (some (.Name fnd a1)) a6.line (envOfC x sg L g cdg) = pure false)
    (w1 : ∀ L, swapsWith (.Tuple [.Constant (.str "bad") j12 b13, .Constant (.str key1) j13 b14, .Attribute (.Name ex b15) f1 b16] k1 b17) (some (.Name fnd b12)) b18.line (envOfC x sg L g cdg) = pure false) (t1 : ∀ L, attributeBase (.Name ex b15) f1 (envOfC x sg L g cdg) (eval (.Name ex b15) (envOfC x sg L g cdg)) = eval (.Name ex b15) (envOfC x sg L g cdg))
    (w2 : ∀ L, swapsWith (.Tuple [.Constant (.str "bad") j22 b23, .Constant (.str key2) j23 b24, .Attribute (.Name ex b25) f2 b26] k2 b27) (some (.Name fnd b22)) b28.line (envOfC x sg L g cdg) = pure false) (t2 : ∀ L, attributeBase (.Name ex b25) f2 (envOfC x sg L g cdg) (eval (.Name ex b25) (envOfC x sg L g cdg)) = eval (.Name ex b25) (envOfC x sg L g cdg))
    (w3 : ∀ L, swapsWith (.Tuple [.Constant (.str "bad") j32 b33, .Constant (.str key3) j33 b34, .Attribute (.Name ex b35) f3 b36] k3 b37) (some (.Name fnd b32)) b38.line (envOfC x sg L g cdg) = pure false) (t3 : ∀ L, attributeBase (.Name ex b35) f3 (envOfC x sg L g cdg) (eval (.Name ex b35) (envOfC x sg L g cdg)) = eval (.Name ex b35) (envOfC x sg L g cdg))
    : GivesTo X Ng x sg g cdg [.Try [.Assign [.Name fnd a1] (.Tuple [.Constant (.str "told") j1 a2, .Call (.Name a a3) [] [] a4] k0 a5) a6] [.ExceptHandler (some (.Name x1 b11)) (some ex) [.Assign [.Name fnd b12] (.Tuple [.Constant (.str "bad") j12 b13, .Constant (.str key1) j13 b14, .Attribute (.Name ex b15) f1 b16] k1 b17) b18] b19, .ExceptHandler (some (.Name x2 b21)) (some ex) [.Assign [.Name fnd b22] (.Tuple [.Constant (.str "bad") j22 b23, .Constant (.str key2) j23 b24, .Attribute (.Name ex b25) f2 b26] k2 b27) b28] b29, .ExceptHandler (some (.Name x3 b31)) (some ex) [.Assign [.Name fnd b32] (.Tuple [.Constant (.str "bad") j32 b33, .Constant (.str key3) j33 b34, .Attribute (.Name ex b35) f3 b36] k3 b37) b38] b39] [] [] a7, .Return (some (.Name fnd a8)) a9] a q (TToldL X.K [(C1, key1, f1), (C2, key2, f2), (C3, key3, f3)]) := by
  subst hNg
  intro f c' s H Q tl act hc h
  let Y : Cx := (cxOf C8.CX0 X.prog X.w X.K X.mg X.base [a, fnd, ex] x sg g cdg X.A X.stack s H C8.E0).nox
  have n1 : Y.N[1]? = some fnd := rfl
  have n2 : Y.N[2]? = some ex := rfl
  have cls : ClsX Y [.ExceptHandler (some (.Name x1 b11)) (some ex) [.Assign [.Name fnd b12] (.Tuple [.Constant (.str "bad") j12 b13, .Constant (.str key1) j13 b14, .Attribute (.Name ex b15) f1 b16] k1 b17) b18] b19, .ExceptHandler (some (.Name x2 b21)) (some ex) [.Assign [.Name fnd b22] (.Tuple [.Constant (.str "bad") j22 b23, .Constant (.str key2) j23 b24, .Attribute (.Name ex b25) f2 b26] k2 b27) b28] b29, .ExceptHandler (some (.Name x3 b31)) (some ex) [.Assign [.Name fnd b32] (.Tuple [.Constant (.str "bad") j32 b33, .Constant (.str key3) j33 b34, .Attribute (.Name ex b35) f3 b36] k3 b37) b38] b39] [(.ref C1, 2, tsCl X.K key1 f1), (.ref C2, 2, tsCl X.K key2 f2), (.ref C3, 2, tsCl X.K key3 f3)] :=
    .cons (X := Y) n2 l2 ⟨g1, e1, .inl m1⟩ (fun b pn => pss_one (ps_set (X := Y.suite b pn) (i := 1) hN n1 (.inl l1) (pe_tup (x1 := k1) (pa_cons (pe_str (x := "bad") (j := j12) (pos := b13)) (pa_cons (pe_str (x := key1) (j := j13) (pos := b14)) (pa_cons (pe_xa (pe_var (i := 2) n2 (.inl l2) d2 c2) (t1 _)) pa_nil)))) (w1 _) (.inl rfl)))
      (.cons (X := Y) n2 l2 ⟨g2, e2, .inl m2⟩ (fun b pn => pss_one (ps_set (X := Y.suite b pn) (i := 1) hN n1 (.inl l1) (pe_tup (x1 := k2) (pa_cons (pe_str (x := "bad") (j := j22) (pos := b23)) (pa_cons (pe_str (x := key2) (j := j23) (pos := b24)) (pa_cons (pe_xa (pe_var (i := 2) n2 (.inl l2) d2 c2) (t2 _)) pa_nil)))) (w2 _) (.inl rfl)))
      (.cons (X := Y) n2 l2 ⟨g3, e3, .inl m3⟩ (fun b pn => pss_one (ps_set (X := Y.suite b pn) (i := 1) hN n1 (.inl l1) (pe_tup (x1 := k3) (pa_cons (pe_str (x := "bad") (j := j32) (pos := b33)) (pa_cons (pe_str (x := key3) (j := j33) (pos := b34)) (pa_cons (pe_xa (pe_var (i := 2) n2 (.inl l2) d2 c2) (t3 _)) pa_nil)))) (w3 _) (.inl rfl)))
      (.nil)))
  refine ⟨_, pss_cons (ps_tryL (X := Y) (tb := fun W D σ H => ∃ Ech : XK, (∀ cls d σ' H', Ech cls d H' → W cls d σ' H') ∧ σ = [some (.ref f), none, none] ∧ H c' = some (CodeO c' q) ∧ tl Ech H fun v H1 => ∀ tp, H1 tp = none → D.nx (σ.set 1 (some (.ref tp))) (upd H1 tp (.tup [.str "told", v])))
    rfl rfl rfl hN (fun W pn xe tk _ => ?_) cls) (pss_one (ps_ret (pe_var (i := 1) n1 (.inl l1) d1 c1))), ?_⟩
  · refine ⟨fun pins s' σ H' D I h' => ?_⟩
    obtain ⟨Ech, hW, h1, h2, h3⟩ := h'
    subst h1
    have hp := act W pn xe Ech a3 a4 tk hW
    have hq := pss_one (ps_set (X := Y.tr pn xe) (i := 1) hN n1 (.inl l1) (pe_tup (x1 := k0) (pa_cons (pe_str (x := "told") (j := j1) (pos := a2)) (pa_cons hp pa_nil))) (w0 _) (.inl rfl))
    refine hq.run pins s' _ H' D I ⟨rfl, h2, ?_⟩
    have e : (fun (v : V) (H1 : Hp) => ∀ tp, H1 tp = none → D.nx (([some (.ref f), none, none] : L2.St).set 1 (some (.ref tp))) (upd H1 tp (.tup [.str "told", v]))) = fun (v : V) (H1 : Hp) => tNil [some (.ref f), none, none] H1 fun xs H2 => (V.str "told" :: v :: xs).length ≤ sizeLine ∧ ∀ tp, H2 tp = none → gName 1 (.ref tp) [some (.ref f), none, none] (upd H2 tp (.tup (V.str "told" :: v :: xs))) D.nx :=
      funext fun v => funext fun H1 => propext ⟨fun z => ⟨by show 2 ≤ sizeLine; rw [sizeLine_eq]; omega, z⟩, fun z => z.2⟩
    exact e ▸ h3
  · refine ⟨wTold X.K Q [(C1, key1, f1), (C2, key2, f2), (C3, key3, f3)], fun cls d σ' H' hw => ?_, rfl, hc, ?_⟩
    · refine wcl_told (K := X.K) (Q := Q) ?_ [(C1, key1, f1), (C2, key2, f2), (C3, key3, f3)] hw
      intro x0 v H1
      constructor
      · rintro ⟨v', e1, e2⟩
        cases e1
        exact e2
      · exact fun z => ⟨v, rfl, z⟩
    · have e : (fun (v : V) (H1 : Hp) => ∀ tp, H1 tp = none → Q (.ref tp) (upd H1 tp (.tup [.str "told", v]))) = fun (v : V) (H1 : Hp) => ∀ tp, H1 tp = none → tRet (tVar 1) { nx := fun _ H' => Q .non H', rt := Q } (([some (.ref f), none, none] : L2.St).set 1 (some (.ref tp))) (upd H1 tp (.tup [.str "told", v])) :=
        funext fun v => funext fun H1 => propext ⟨fun z tp ht => ⟨.ref tp, rfl, z tp ht⟩, fun z tp ht => by
          obtain ⟨v', e1, e2⟩ := z tp ht
          cases e1
          exact e2⟩
      exact e ▸ h
end
end VI
end

section
set_option Elab.async false
set_option linter.all false
set_option autoImplicit false
set_option maxRecDepth 100000
set_option maxHeartbeats 2000000
/-! VJ, 3: a lambda handed to a def; what it costs the tables -/
namespace VI
open PySem PySem.Spec L2 LamX PyProof.Rows
/-- all but the tables stays, no table is new, none is lost -/
structure ExtT (H H1 : Hp) : Prop where
  ex : ExtN H H1
  tr : ∀ a o, H a = some o → ∃ o', H1 a = some o'
  no : ∀ a ps, H1 a = some (.tbl ps) → ∃ qs, H a = some (.tbl qs)
section
variable {X : Cx} {pins : List (Addr × Obj)} {σ : L2.St} {H : Hp} {s : Shared}
theorem lamMake {T : List (Addr × Str)} {c P : Addr} {params : Arguments} {body : Expr} {scope : Scope} {pos : Pos} {E Q : Value → Shared → Prop} (I : Inv X pins σ H s) (TB : TabB X.base X.mg c P) (hcode : X.env.code = .ref c)
    (hm : (P, X.env.qual ++ "<lambda>") ∈ T) (hu : ∀ p ∈ T, p.1 = P → p.2 = X.env.qual ++ "<lambda>") (hT : Tabs T H) (hdef : defaultsOf params X.env = ([], [])) (hfree : ∀ y ∈ scope.names, y.2 = .free → ∃ c, X.env.cells.lookup y.1 = some c)
    (h : ∀ (f c' : Addr) (pm ctv : Value) (H1 : Hp) (t : Shared), Inv X pins σ H1 t → ExtT H H1 → Tabs T H1 → t.heap.get? f = some (PySem.W.kla_obj "<lambda>" (X.env.qual ++ "<lambda>") params body scope (cloFrom X.env.cells scope.names []) pm c' ctv) →
      H1 f = none → f ∉ frs X.stack → H1 c' = some (CodeO c' (X.env.qual ++ "<lambda>")) → Q (.ref f) t) : wpAny (model X.prog X.w) X.A (eval (.Lambda params body scope pos) X.env) Q E s := by
  obtain ⟨ps, hP, trip, known⟩ := hT _ hm
  have oP : s.heap.get? P = some { cls := .none, data := .fields ps } := I.hok P _ hP
  have out : ∀ f, s.heap.objs.size ≤ f → f ∉ frs X.stack := fun f hf z => (List.mem_cons.mp (I.stkSub _ z)).elim (fun e => Nat.lt_irrefl _ (Nat.lt_of_lt_of_le (e ▸ I.lt) hf)) fun e => I.nofs hf e
  refine PySem.W.kla_eval hdef ?_
  cases hc : codeAmong pos ps.toList with
  | some cv =>
    obtain ⟨c', rfl, hco⟩ := known pos cv hc
    refine PySem.W.kla_makeFunctionHit (mg := X.mg) (c := c) (P := P) (ps := ps) (closure_ok hfree) I.ok.glob (I.mod.glob.keeps I.bk) hcode (TB.code.keeps I.bk) oP trip hc (TB.bm.keeps I.bk) fun ctv h' tk grow hsz => ?_
    have J : Inv X pins σ H { s with heap := h'.push (PySem.W.kla_obj "<lambda>" (X.env.qual ++ "<lambda>") params body scope (cloFrom X.env.cells scope.names []) ((X.mg "__name__").getD .none) c' ctv), toks := tk } :=
      I.kept fun b o e => Heap.get?_push_of_some _ (grow b o e)
    exact h _ c' _ ctv H _ J ⟨ExtN.refl H, fun a o e => ⟨o, e⟩, fun a qs e => ⟨qs, e⟩⟩ hT (Heap.get?_push_size _ rfl) (I.hok.fresh hsz) (out _ hsz) hco
  | none =>
    refine PySem.W.kla_makeFunction (mg := X.mg) (c := c) (P := P) (ps := ps) (closure_ok hfree) I.ok.glob (I.mod.glob.keeps I.bk) hcode (TB.code.keeps I.bk) oP trip hc TB.gP (TB.bm.keeps I.bk) fun c' ctv h' tk grow hge hlt hrec htb => ?_
    obtain ⟨c2, oc, vs, t, e2, hoc, hd, hv⟩ := hrec
    cases e2
    have nC : H c' = none := I.hok.fresh hge
    have nPC : P ≠ c' := ne_of_none hP nC
    have hsz : s.heap.objs.size ≤ h'.objs.size := Nat.le_trans hge (Nat.le_of_lt hlt)
    have J := inv_table (t' := tk) (more := #[rawInt pos.line, rawInt pos.col, .ref c']) (h' := h'.push (PySem.W.kla_obj "<lambda>" (X.env.qual ++ "<lambda>") params body scope (cloFrom X.env.cells scope.names []) ((X.mg "__name__").getD .none) c' ctv)) I hP
      (fun b o hb e => Heap.get?_push_of_some _ (grow b o hb e)) (Heap.get?_push_of_some _ htb) hge ⟨oc, vs, t, Heap.get?_push_of_some _ hoc, hd, hv⟩
    generalize hps : ps ++ #[rawInt pos.line, rawInt pos.col, .ref c'] = qs at J htb
    have aP : upd (upd H P (.tbl qs)) c' (CodeO c' (X.env.qual ++ "<lambda>")) P = some (.tbl qs) := by rw [upd_ne nPC, upd_same]
    have aO : ∀ b, b ≠ P → b ≠ c' → upd (upd H P (.tbl qs)) c' (CodeO c' (X.env.qual ++ "<lambda>")) b = H b := fun b h1 h2 => (upd_ne h2).trans (upd_ne h1)
    have ex : ExtN H (upd (upd H P (.tbl qs)) c' (CodeO c' (X.env.qual ++ "<lambda>"))) := fun b o e n =>
      (aO b (fun z => by rw [z, hP] at e; exact n ps (Option.some.inj e).symm) (ne_of_none e nC)).trans e
    have eL : qs.toList = ps.toList ++ [rawInt pos.line, rawInt pos.col, .ref c'] := by rw [← hps]; simp
    refine h h'.objs.size c' _ ctv _ _ J ⟨ex, fun a o e => ?_, fun a rs e => ?_⟩ (fun p hp => ?_) (Heap.get?_push_size _ rfl) ?_ (out _ hsz) upd_same
    · by_cases hb : a = P
      · refine ⟨.tbl qs, ?_⟩
        rw [hb]
        exact aP
      · exact ⟨o, (aO a hb (ne_of_none e nC)).trans e⟩
    · by_cases hb : a = P
      · rw [hb]
        exact ⟨ps, hP⟩
      · by_cases hb2 : a = c'
        · rw [hb2, upd_same] at e
          exact absurd (Option.some.inj e) (codeO_ne rs)
        · rw [aO a hb hb2] at e
          exact ⟨rs, e⟩
    · by_cases hb : p.1 = P
      · rw [hu p hp hb, hb]
        refine ⟨qs, aP, eL ▸ PySem.TriplesOk_snoc _ _ _ _ trip, fun p' cv hcv => ?_⟩
        rw [eL] at hcv
        rcases among_app _ trip hcv with z | z
        · obtain ⟨c0, z1, z2⟩ := known p' cv z
          exact ⟨c0, z1, ex _ _ z2 codeO_ne⟩
        · exact ⟨c', z, upd_same⟩
      · obtain ⟨rs, a1, a2, a3⟩ := hT p hp
        refine ⟨rs, (aO _ hb (ne_of_none a1 nC)).trans a1, a2, fun p' cv hcv => ?_⟩
        obtain ⟨c0, z1, z2⟩ := a3 p' cv hcv
        exact ⟨c0, z1, ex _ _ z2 codeO_ne⟩
    · exact (aO _ (Nat.ne_of_gt (Nat.lt_of_lt_of_le (Heap.lt_size oP) hsz)) (Nat.ne_of_gt hlt)).trans (I.hok.fresh hsz)
def tLamT (T : List (Addr × Str)) (TT : (XK → Hp → VK → Prop) → Hp → VK → Prop) (t : XK → TE) : TE := fun σ H Q => Tabs T H ∧ ∀ H1, ExtT H H1 → Tabs T H1 → TT (fun E H' Q' => t E σ H' Q') H1 Q
/-- x(lambda: body) -/
theorem pe_lamT {T : List (Addr × Str)} {TT : (XK → Hp → VK → Prop) → Hp → VK → Prop} {x a : Str} {g c P : Addr} {k : Nat} {pg : Arguments} {bg : List Stmt} {sg : Scope} {fd : FuncData} {Ng : List Str} {params : Arguments} {body : Expr} {scope : Scope} {t : XK → TE} {p lpos pos : Pos}
    (hg : Gl X x) (hm : X.mg x = some (.ref g)) (F : FunD X.K x x pg bg sg [] [] g fd) (hb : L2.Binds X.K fd [a] []) (Sg : FnScope Ng [a] sg) (hNg : Ng[0]? = some a) (hva : Vis sg a) (hG : ∀ cdv, GivesTo X Ng x sg g cdv bg a (X.env.qual ++ "<lambda>") TT)
    (TB : TabB X.base X.mg c P) (hcode : X.env.code = .ref c) (hmT : (P, X.env.qual ++ "<lambda>") ∈ T) (hu : ∀ p ∈ T, p.1 = P → p.2 = X.env.qual ++ "<lambda>") (hr : Room (k + 2) X.A) (L : LamS X.env.scope scope) (hdef : defaultsOf params X.env = ([], []))
    (hbind : ∀ (q : Str) (cl : List (Str × Addr)) (pm cv ctv : Value), bindArgs (PySem.W.kla_fn "<lambda>" q params body scope cl pm cv ctv) ⟨[], []⟩ = pure [])
    (hbody : ∀ (A : Around) (outer : List Env) (s : Shared) (H : Hp) (E : XK) (f c' : Addr), Room k (A.deeper (lamEnv X scope s.heap.objs.size f c')) → PE (lamCx X A outer s H E scope f c') body (t E))
    (hdb : (x == ("__debug__" : Str)) = false) (hd : (a == ("__debug__" : Str)) = false) (hcd : (a == ("__classdict__" : Str)) = false) : PE X (.Call (.Name x p) [.Lambda params body scope lpos] [] pos) (tLamT T TT t) := by
  obtain ⟨oc, od, dV, kV, doc, pm, an, cdv, ct, osl, rfl, lk, hcg, _, _⟩ := F.ex
  refine ⟨fun pins s σ H Q I ⟨hT, h⟩ => ?_⟩
  refine wpAny_Call_Name_kw (ld_glob I hg hm ?_ hdb)
  refine PySem.W.callWith_K (h₀ := X.base) I.ok.mod.kin F.kp ?_ (by rfl) (by rfl)
  show wpAny _ _ (spliced ((false, eval (.Lambda params body scope lpos) X.env) :: backTo pos (starEach [] X.env))) _ _ s
  refine Calls.spliced_cons (lamMake I TB hcode hmT hu hT hdef (L.has I.ok) fun f c' pm' ctv H1 t1 I1 eT T1 of nf fr oc' => Calls.spliced_nil ⟨I1.kIn, ?_⟩)
  have rc : codeAny (model X.prog X.w) X.A (.call (.ref g) ⟨[.ref f], []⟩) (CR C8.CX0 X.stack X.prog X.w H1 t1 Q C8.E0) t1 := by
    refine run_ofS (N := Ng) (ps := [a]) (us := [.ref f]) (vs := [.ref f]) lk hcg Sg hr I1.env0 (hb t1 [.ref f] I1.kIn rfl) (.cons rfl .nil) rfl fun hr' => ?_
    obtain ⟨t2, ht2, hq2⟩ := hG cdv f c' t1 H1 Q (fun E H' Q' => t E σ H' Q') (fun W pn xe E p1 p2 tk hW => pe_act (i := 0) I1 L of nf fr (hbind _ _ _ _ _) tk hW hr' (fun A outer s2 H2 hr2 => hbody A outer s2 H2 E f c' hr2) hNg hva hd hcd) oc' (h H1 eT T1)
    exact ⟨t2, ht2.nox, hq2⟩
  refine wpAny_call (codeAny_mono rc fun r t3 hq => ?_)
  cases r with
  | error e => exact (show False from hq).elim
  | ok fl => cases fl with
    | ret u => exact I1.after hq
    | next => exact False.elim hq
    | brk => exact False.elim hq
    | cont => exact False.elim hq
end
end VI
end

section
set_option Elab.async false
set_option linter.all false
set_option autoImplicit false
set_option maxRecDepth 100000
set_option maxHeartbeats 2000000
/-! VJ, 4: told(lambda: e), read on data -/
namespace VI
open PySem PySem.Spec L2 LamX PyProof.Rows
/-- ('told', f()), or what the exception keeps -/
def fTold (cl : List (Nat × Str)) (f : Dl → Store → Res) : Dl → Store → Res := fun δ S => match f δ S with
  | .ok d S' => .ok (.tup [.str "told", d]) S'
  | .ex j [d] S' => (match cl.lookup j with
    | some key => .ok (.tup [.str "bad", .str key, d]) S'
    | none => .st)
  | _ => .st
/-- the clauses: number, class, word, field -/
structure ToldOk (K : PySem.W.Frag) (gv : Gv) (R : List (Nat × Addr × Str × Str)) : Prop where
  x : ∀ r ∈ R, gv.x r.1 = some (r.2.1, [r.2.2.2]) ∧ XcC K r.2.1 ∧ PySem.W.findIn K (.ref r.2.1) r.2.2.2 = some none
  m : ∀ r ∈ R, ∀ r' ∈ R, PySem.W.exmOne K (.ref r.2.1) (.ref r'.2.1) = some (decide (r.1 = r'.1))
section
variable {K : PySem.W.Frag} {gv : Gv} {R : List (Nat × Addr × Str × Str)}
theorem look_mem {α β : Type} [DecidableEq α] {x : α} {y : β} : ∀ {l : List (α × β)}, l.lookup x = some y → (x, y) ∈ l
  | [], h => by simp at h
  | (a, b) :: l, h => by
    rw [List.lookup_cons] at h
    by_cases e : x = a
    · subst e
      simp at h
      subst h
      exact List.mem_cons_self
    · have eb : (x == a) = false := beq_eq_false_iff_ne.mpr e
      simp only [eb] at h
      exact List.mem_cons_of_mem _ (look_mem h)
theorem told_ex (t : ToldOk K gv R) {r0 : Nat × Addr × Str × Str} (h0 : r0 ∈ R) {Q : VK} {dd : Addr} {H : Hp} {v : V} {key : Str} (hd : H dd = some (.xd [(r0.2.2.2, v)])) (q : ∀ a tp, H a = none → upd H a (ExV (.ref r0.2.1) (some dd) a) tp = none → Q (.ref tp) (upd (upd H a (ExV (.ref r0.2.1) (some dd) a)) tp (.tup [.str "bad", .str key, v]))) :
    ∀ (R' : List (Nat × Addr × Str × Str)), (∀ r ∈ R', r ∈ R) → (R'.map fun r => (r.1, r.2.2.1)).lookup r0.1 = some key → wTold K Q (R'.map fun r => (r.2.1, r.2.2.1, r.2.2.2)) (.ref r0.2.1) (some dd) H
  | [], _, h => by simp at h
  | r :: R', hs, h => by
    have hr := hs r List.mem_cons_self
    obtain ⟨x0, xc0, no0⟩ := t.x r0 h0
    obtain ⟨x1, xc1, no1⟩ := t.x r hr
    refine ⟨_, t.m r0 h0 r hr, fun hb => ?_, fun hb => told_ex t h0 hd q R' (fun r' h' => hs r' (List.mem_cons_of_mem _ h')) ?_⟩
    · have e : r0.1 = r.1 := of_decide_eq_true hb
      rw [e, x1] at x0
      have ef : r.2.2.2 = r0.2.2.2 := by
        have := congrArg (·.2) (Option.some.inj x0)
        simpa using this
      have ek : r.2.2.1 = key := by
        rw [e] at h
        simpa [List.lookup_cons] using h
      refine ⟨r0.2.1, dd, [(r0.2.2.2, v)], v, rfl, rfl, xc0, by rw [ef]; exact no0, hd, by rw [ef]; simp [List.lookup], fun a tp ha htp => ?_⟩
      rw [ek]
      exact q a tp ha htp
    · have e : r0.1 ≠ r.1 := of_decide_eq_false hb
      have eb : (r0.1 == r.1) = false := beq_eq_false_iff_ne.mpr e
      rw [List.map_cons, List.lookup_cons] at h
      simp only [eb] at h
      exact h
end
section
variable {G : Gc} {W : WX} {pv : Bool} {X : Cx} {K : PySem.W.Frag} {R : List (Nat × Addr × Str × Str)}
theorem extT_adv {gv : Gv} {H H1 : Hp} {Z : Addr → Prop} {c : List Addr} {S : Store} (e : ExtT H H1) (t1 : Tabs gv.T H1) (s : StoreOk gv H Z c S) : Adv pv H Z c H1 Z c ∧ StoreOk gv H1 Z c S := by
  have a : ∀ pu, Adv pu H Z c H1 Z c := fun pu => ⟨fun a o h _ nt => e.ex a o h nt, fun _ h => h, fun _ h => .inl h, ⟨[], by simp, by simp⟩, e.tr⟩
  refine ⟨a pv, s.step (a true) (fun x hx o h => ?_) (fun x z => ?_) ⟨t1, trivial⟩⟩
  · obtain ⟨n, en⟩ := List.getElem?_of_mem hx
    obtain ⟨_, _, _, h1, h2, _⟩ := s.ok n x en
    obtain ⟨w, hw, nt, _⟩ := h1.get h2
    rw [h] at hw
    cases hw
    exact e.ex x o h nt
  · obtain ⟨o, h⟩ := s.zt x z
    exact e.tr x o h
theorem told_tE (t : ToldOk K G.gv R) {f : Dl → Store → Res} {okm : List Md → Prop} {σ : L2.St} {H : Hp} {Q : VK} (q : tE G W pv (fTold (R.map fun r => (r.1, r.2.2.1)) f) .z okm σ H Q) :
    tLamT G.gv.T (TToldL K (R.map fun r => (r.2.1, r.2.2.1, r.2.2.2))) (fun E => tE G (fun cls d _ H' => E cls d H') pv f .z okm) σ H Q := by
  obtain ⟨E, m, δ, S, Z, c, R0, ok, q⟩ := q
  refine ⟨R0.st.tb.1, fun H1 ext tb1 => ?_⟩
  obtain ⟨a0, s0⟩ := extT_adv (pv := pv) ext tb1 R0.st
  refine ⟨E, m, δ, S, Z, c, R0.step a0 s0, ok, ?_⟩
  unfold fTold at q
  cases hf : f δ S with
  | st => rw [hf] at q; exact q
  | ok d S' =>
    rw [hf] at q
    intro v H2 Z2 c2 a2 s2 rv tp htp
    have rv : Rep G.gv H2 Z2 c2 v d := rv
    have A : Adv pv H2 Z2 c2 (upd H2 tp (.tup [.str "told", v])) Z2 c2 := Adv.new htp
    exact q _ _ Z2 c2 ((a0.trans a2).trans A) (s2.new htp) (.obj (.inl upd_same) (.inr trivial) (.tup (.cons (.str _) (.cons (rv.mono (A.grow s2)) .nil))))
  | ex j ds S' =>
    rw [hf] at q
    intro H2 Z2 c2 cls dd a2 s2 hx
    match ds with
    | [] => exact q.elim
    | _ :: _ :: _ => exact q.elim
    | [d] =>
      dsimp only at q
      cases hl : (R.map fun r => (r.1, r.2.2.1)).lookup j with
      | none => rw [hl] at q; exact q.elim
      | some key =>
        rw [hl] at q
        have hm : ∃ r0 ∈ R, r0.1 = j := by
          have : (j, key) ∈ R.map fun r => (r.1, r.2.2.1) := look_mem hl
          obtain ⟨r, h1, h2⟩ := List.mem_map.mp this
          exact ⟨r, h1, congrArg (·.1) h2⟩
        obtain ⟨r0, h0, rfl⟩ := hm
        obtain ⟨C, fs, hC, rfl, hx⟩ := hx
        obtain ⟨x0, _, _⟩ := t.x r0 h0
        have hC : G.gv.x r0.1 = some (C, fs) := hC
        rw [x0] at hC
        cases hC
        rcases hx with ⟨z, _⟩ | ⟨dx, vs, rfl, hv, hdx, rs⟩
        · cases z
        · obtain ⟨v, rfl, rv⟩ := reps1 rs
          refine told_ex t h0 hdx (fun a tp ha htp => ?_) R (fun _ h => h) hl
          have A1 : Adv pv H2 Z2 c2 (upd H2 a (ExV (.ref r0.2.1) (some dx) a)) Z2 c2 := Adv.new ha
          have s3 := s2.new (o := ExV (.ref r0.2.1) (some dx) a) ha
          have A2 : Adv pv (upd H2 a (ExV (.ref r0.2.1) (some dx) a)) Z2 c2 (upd (upd H2 a (ExV (.ref r0.2.1) (some dx) a)) tp (.tup [.str "bad", .str key, v])) Z2 c2 := Adv.new htp
          exact q _ _ Z2 c2 ((a0.trans a2).trans (A1.trans A2)) (s3.new htp) (.obj (.inl upd_same) (.inr trivial) (.tup (.cons (.str _) (.cons (.str _) (.cons (rv.mono ((A1.trans A2).grow s2)) .nil)))))
/-- x(lambda: body), x the def that tells -/
theorem pe_toldD {x a : Str} {g c P : Addr} {k : Nat} {pg : Arguments} {bg : List Stmt} {sg : Scope} {fd : FuncData} {Ng : List Str} {params : Arguments} {body : Expr} {scope : Scope} {f : Dl → Store → Res} {okm : List Md → Prop} {p lpos pos : Pos} {cl : List (Nat × Str)} (t : ToldOk X.K G.gv R) (hcl : (R.map fun r => (r.1, r.2.2.1)) = cl)
    (hg : Gl X x) (hm : X.mg x = some (.ref g)) (F : FunD X.K x x pg bg sg [] [] g fd) (hb : L2.Binds X.K fd [a] []) (Sg : FnScope Ng [a] sg) (hNg : Ng[0]? = some a) (hva : Vis sg a) (hG : ∀ cdv, GivesTo X Ng x sg g cdv bg a (X.env.qual ++ "<lambda>") (TToldL X.K (R.map fun r => (r.2.1, r.2.2.1, r.2.2.2))))
    (TB : TabB X.base X.mg c P) (hcode : X.env.code = .ref c) (hmT : (P, X.env.qual ++ "<lambda>") ∈ G.gv.T) (hu : ∀ p ∈ G.gv.T, p.1 = P → p.2 = X.env.qual ++ "<lambda>") (hr : Room (k + 2) X.A) (L : LamS X.env.scope scope) (hdef : defaultsOf params X.env = ([], []))
    (hbind : ∀ (q : Str) (cl : List (Str × Addr)) (pm cv ctv : Value), bindArgs (PySem.W.kla_fn "<lambda>" q params body scope cl pm cv ctv) ⟨[], []⟩ = pure [])
    (hbody : ∀ (A : Around) (outer : List Env) (s : Shared) (H : Hp) (E : XK) (f' c' : Addr), Room k (A.deeper (lamEnv X scope s.heap.objs.size f' c')) → PE (lamCx X A outer s H E scope f' c') body (tE G (fun cls d _ H' => E cls d H') pv f .z okm))
    (hdb : (x == ("__debug__" : Str)) = false) (hd : (a == ("__debug__" : Str)) = false) (hcd : (a == ("__classdict__" : Str)) = false) : PE X (.Call (.Name x p) [.Lambda params body scope lpos] [] pos) (tE G W pv (fTold cl f) .z okm) :=
  (pe_lamT hg hm F hb Sg hNg hva hG TB hcode hmT hu hr L hdef hbind hbody hdb hd hcd).impD fun σ H Q q => told_tE t (hcl ▸ q)
/-- what a lambda's body lets out -/
theorem takesL {A : Around} {outer : List Env} {s : Shared} {H : Hp} {E : XK} {scope : Scope} {f c' : Addr} : Takes (lamCx X A outer s H E scope f c') (fun cls d _ H' => E cls d H') := takes_of rfl rfl rfl rfl
end
end VI
end

section
set_option Elab.async false
set_option linter.all false
set_option autoImplicit false
set_option maxRecDepth 100000
set_option maxHeartbeats 2000000
/-! VJ, 5: a dict comprehension, read on data -/
namespace VI
open PySem PySem.Spec L2
section
variable {G : Gc} {W : WX} {pv : Bool} {X : Cx} {tg : Expr}
def dcD (t : Tgt) (fk fv : Dl → Store → Res) (δ : Dl) : List D → List D → List D → Store → Option (List D × List D × Store)
  | [], ks, vs, S => some (ks, vs, S)
  | x :: xs, ks, vs, S => match bindT t x δ with
    | none => none
    | some δ1 => match fk δ1 S with
      | .ok k S1 => if isKey k then (match fv δ1 S1 with
        | .ok v S2 => dcD t fk fv δ xs (dput ks vs k v).1 (dput ks vs k v).2 S2
        | _ => none) else none
      | _ => none
def fDc (t : Tgt) (fk fv : Dl → Store → Res) (it : Dl → Store → Ress) : Dl → Store → Res := fun δ S => match it δ S with
  | .st => .st
  | .ex j ds S' => .ex j ds S'
  | .ok items S1 => if items.length < sizeLine then (match dcD t fk fv δ items [] [] S1 with
    | some (ks, vs, S2) => .ok (.dct false ks vs) S2
    | none => .st) else .st
/-- what is left, what is made (at L) -/
def DcInv (gv : Gv) (pv : Bool) (t : Tgt) (fk fv : Dl → Store → Res) (δ : Dl) (items : List D) (res : List D × List D × Store) (H1 : Hp) (Z1 : Addr → Prop) (c1 : List Addr) (L : Addr) (i : Nat) (H2 : Hp) : Prop :=
  i ≤ items.length ∧ ∃ (Z2 : Addr → Prop) (c2 : List Addr) (S2 : Store) (kvs : List (Key × V)) (vs2 : List D), Adv pv H1 Z1 c1 H2 Z2 c2 ∧ StoreOk gv H2 Z2 c2 S2 ∧ H2 L = some (.dK kvs) ∧ Reps gv H2 Z2 c2 (kvs.map (·.2)) vs2 ∧ ¬ Z2 L ∧ L ∉ c2 ∧ kvs.length ≤ i ∧
    dcD t fk fv δ (items.drop i) (kvs.map fun p => keyD p.1) vs2 S2 = some res
theorem putK_len {κ : Type} [DecidableEq κ] (kvs : List (κ × V)) (k : κ) (v : V) : (putK kvs k v).length ≤ kvs.length + 1 := by
  unfold putK
  split
  · simp
  · simp
theorem dc_tE {wi : TI} {t : Tgt} {fk fv : Dl → Store → Res} {fi : Dl → Store → Ress} {k1 k2 : Kd} {okm okk okv : List Md → Prop} (hk2 : k2 ≠ .b) {vs : List Nat} (hv : ∀ i ∈ t.slots, i ∈ vs)
    (hc : ∀ m, okm m → okk (mdT t (xL vs m)) ∧ okv (mdT t (xL vs m))) {σ : L2.St} {H : Hp} {Q : VK} (q : tE G W pv (fDc t fk fv fi) .o okm σ H Q) :
    tDc (tIt G W pv fi okm) (tTg G pv t) (tTst G W0 pv fYes fun _ => True) (tE G W0 pv fk k1 okk) (tE G W0 pv fv k2 okv) vs σ H Q := by
  obtain ⟨E, m, δ, S, Z, c, R, ok, q⟩ := q
  refine ⟨E, m, δ, S, Z, c, R, ok, ?_⟩
  unfold fDc at q
  cases hf : fi δ S with
  | st => rw [hf] at q; exact q
  | ex j ds S' => rw [hf] at q; exact q
  | ok items S1 =>
    rw [hf] at q
    dsimp only at q
    intro J H1 Z1 c1 a1 s1 wk
    by_cases hsz : items.length < sizeLine
    case neg => rw [if_neg hsz] at q; exact q.elim
    rw [if_pos hsz] at q
    intro L hL
    have R1 := R.step a1 s1
    cases hl : dcD t fk fv δ items [] [] S1 with
    | none => rw [hl] at q; exact q.elim
    | some res =>
      rw [hl] at q
      dsimp only at q
      have nZ : ¬ Z1 L := fun z => by obtain ⟨o, h⟩ := s1.zt L z; rw [hL] at h; cases h
      have nC : L ∉ c1 := fun z => by
        obtain ⟨n, e⟩ := List.getElem?_of_mem z
        exact s1.ne e hL rfl
      refine ⟨fun i mm H2 => mm = items.length - i ∧ DcInv G.gv pv t fk fv δ items res H1 Z1 c1 L i H2, ⟨items.length, by simp, Nat.zero_le _, Z1, c1, S1, [], [], Adv.new hL, s1.new hL, upd_same, .nil, nZ, nC, Nat.le_refl _, hl⟩, fun i mm H2 hI => ?_⟩
      obtain ⟨rfl, hi, Z2, c2, S2, kvs, vs2, a2, s2, hH, rs, nz, nc, hlen, hm⟩ := hI
      have wk2 := wk H2 Z2 c2 S2 (a2.go s1) s2
      by_cases hlt : i < items.length
      · right
        refine ⟨wk2.1 i hlt, fun H3 => DcInv G.gv pv t fk fv δ items res H1 Z1 c1 L (i + 1) H3, fun H3 h3 => ⟨items.length - (i + 1), by omega, rfl, h3⟩, fun x H3 hy => ?_⟩
        have hd : items.drop i = items[i] :: items.drop (i + 1) := List.drop_eq_getElem_cons hlt
        rw [hd] at hm
        unfold dcD at hm
        obtain ⟨Z3, a3, s3, r3⟩ := wk2.2.2 i items[i] x H3 (List.getElem?_eq_getElem hlt) hy
        cases hb : bindT t items[i] δ with
        | none => rw [hb] at hm; cases hm
        | some δ1 =>
          rw [hb] at hm
          dsimp only at hm
          have a13 := a2.trans a3
          have R3 : Rst G.gv pv E (xL vs m) δ S2 Z3 c2 (L2.wipe σ vs) H3 := (R1.step a13 s3).wipe vs
          refine ⟨E, xL vs m, δ, S2, Z3, c2, items[i], δ1, R3, r3, hb, fun σ2 R4 hw => ?_⟩
          have hw2 : L2.wipe σ2 vs = L2.wipe σ vs := by
            rw [hw vs hv]
            apply List.ext_getElem?
            intro j
            rw [wipe_get, wipe_get]
            by_cases hj : j ∈ vs
            · simp only [wipe_get, if_pos hj]
              cases σ[j]? <;> rfl
            · simp only [wipe_get, if_neg hj]
          refine ⟨hw2, E, _, δ1, S2, Z3, c2, R4, trivial, true, rfl, fun H4 Z4 c4 a4 s4 => ?_⟩
          refine L2.iteT ?_
          have kL3 := a3.keep _ _ hH (.inr nc) (fun ps e => by cases e)
          have kL4 := a4.keep _ _ kL3 (.inr nc) (fun ps e => by cases e)
          have out : ∀ {Ha Hb : Hp} {Za Zb : Addr → Prop} {ca cb : List Addr} {o : HO}, Adv pv Ha Za ca Hb Zb cb → Ha L = some o → ¬ Za L → L ∉ ca → ¬ Zb L ∧ L ∉ cb := fun {Ha Hb Za Zb ca cb o} a h1 h2 h3 => by
            refine ⟨fun z => ?_, ?_⟩
            · rcases a.zn L z with z | z
              · exact h2 z
              · rw [h1] at z; cases z
            · obtain ⟨n, e, hn⟩ := a.cn
              rw [e, List.mem_append]
              rintro (z | z)
              · exact h3 z
              · have := hn L z
                rw [h1] at this; cases this
          obtain ⟨nz3, _⟩ := out a3 hH nz nc
          obtain ⟨nz4, nc4⟩ := out a4 kL3 nz3 nc
          refine ⟨E, _, δ1, S2, Z4, c4, R4.step a4 s4, (hc m ok).1, ?_⟩
          cases hek : fk δ1 S2 with
          | st => rw [hek] at hm; cases hm
          | ex j es S' => rw [hek] at hm; cases hm
          | ok kd S5 =>
            rw [hek] at hm
            dsimp only at hm
            intro y H5 Z5 c5 a5 s5 rk
            cases hkey : isKey kd with
            | false => rw [hkey] at hm; cases hm
            | true =>
              rw [hkey] at hm
              obtain ⟨κ, rfl⟩ := isKey_of hkey
              have hy5 : y = kV κ := by
                cases κ with
                | inl i => exact rk.vw.vr.int
                | inr z => exact rk.vw.vr.str
              have kL5 := a5.keep _ _ kL4 (.inr nc4) (fun ps e => by cases e)
              obtain ⟨nz5, nc5⟩ := out a5 kL4 nz4 nc4
              refine ⟨E, _, δ1, S5, Z5, c5, (R4.step a4 s4).step a5 s5, (hc m ok).2, ?_⟩
              simp only [if_true] at hm
              cases hev : fv δ1 S5 with
              | st => rw [hev] at hm; cases hm
              | ex j es S' => rw [hev] at hm; cases hm
              | ok dv S6 =>
                rw [hev] at hm
                dsimp only at hm
                intro z H6 Z6 c6 a6 s6 rkv
                obtain ⟨Z7, a7, s7, r7, g7⟩ := rkv.frz hk2 a6 s6
                have kL6 := a7.keep _ _ kL5 (.inr nc5) (fun ps e => by cases e)
                obtain ⟨nz7, nc7⟩ := out a7 kL5 nz5 nc5
                have rs7 := (((rs.mono (a3.grow s2)).mono (a4.grow s3)).mono (a5.grow s4)).mono (a7.grow s5)
                obtain ⟨p1, p2⟩ := put_of (gv := G.gv) (H := H6) (Z := Z7) (c := c6) beq_keyD (k := κ) r7 rs7
                have hvl : kvs.length < sizeLine := by omega
                have gu : Grow H6 Z7 c6 (L2.upd H6 L (.dK (putK kvs κ z))) Z7 c6 := Grow.upd (gv := G.gv) kL6 trivial nz7
                refine ⟨kvs, κ, hy5, kL6, hvl, hlt, Z7, c6, S6, putK kvs κ z, _, (((a13.trans a4).trans a5).trans a7).upd hL, s7.upd kL6 trivial nz7 nc7, upd_same, p2.mono gu, nz7, nc7, Nat.le_trans (putK_len kvs κ z) (Nat.succ_le_succ hlen), ?_⟩
                rw [← p1]
                exact hm
      · left
        have hi' : i = items.length := by omega
        subst hi'
        refine ⟨wk2.2.1 _ (Nat.le_refl _), ?_⟩
        rw [List.drop_length] at hm
        unfold dcD at hm
        cases hm
        exact q (.ref L) H2 Z2 c2 (a1.trans a2) s2 ⟨L, _, rfl, hH, trivial, .dK rfl rs, nz, nc, a1.untr hL⟩
/-- {k: v for t in i} -/
theorem pe_dcD {kx vx iter : Expr} {scope : Scope} {own : List (Str × Nat)} {pos : Pos} {t : Tgt} {fi : Dl → Store → Ress} {fk fv : Dl → Store → Res} {k1 k2 : Kd} {oki okk okv : List Md → Prop} (hc : X.calm = true) (hN : X.N.Nodup) (ok : BlkOk X.N X.env.scope scope own) (hk : k2 ≠ .b) (hv : ∀ i ∈ t.slots, i ∈ own.map (·.2)) (hi : PI X tg iter (tIt G W pv fi oki))
    (hg : ∀ (s : Shared) (H : Hp) (C : Addr) (cl : List (Str × Addr)) (fp : List Addr), TgOk (X.blk s H scope (compEnvC scope cl C X.env) fp) tg t)
    (hkx : ∀ (s : Shared) (H : Hp) (C : Addr) (cl : List (Str × Addr)) (fp : List Addr), PE (X.blk s H scope (compEnvC scope cl C X.env) fp) kx (tE G W0 pv fk k1 okk)) (hvx : ∀ (s : Shared) (H : Hp) (C : Addr) (cl : List (Str × Addr)) (fp : List Addr), PE (X.blk s H scope (compEnvC scope cl C X.env) fp) vx (tE G W0 pv fv k2 okv))
    (hs : ∀ x, foldedSetIterable iter X.env x = pure x) : PE X (.DictComp kx vx [⟨tg, iter, [], 0⟩] scope pos) (tE G W pv (fDc t fk fv fi) .o (okLc t (own.map (·.2)) oki okk okv)) :=
  (pe_dc hc hN (itImp (okm' := okLc t (own.map (·.2)) oki okk okv) (fun m h => h.1) hi) ok (fun s H C cl fp => pg_tgD (G := G) (pv := pv) hc hN (hg s H C cl fp)) (fun s H C cl fp => pts_nilD) hkx hvx hs).impD fun σ H Q q =>
    dc_tE (wi := tIt G W pv fi (okLc t (own.map (·.2)) oki okk okv)) hk hv (fun m h => h.2) q
end
end VI
end

section
set_option Elab.async false
set_option linter.all false
set_option autoImplicit false
set_option maxRecDepth 100000
set_option maxHeartbeats 2000000
/-! VJ, 6: dict of pairs, a list again and again, a table of the module, a def held by a name -/
namespace VI
open PySem PySem.Spec L2
section
variable {G : Gc} {W : WX} {pv : Bool} {X : Cx} {a b : Expr} {f f' : Dl → Store → Res} {k1 k2 : Kd} {okm okm' : List Md → Prop} {pos : Pos}
/-! ### dict([(k, v), ..]) -/
def pairsD : List D → Option (List (D × D))
  | [] => some []
  | .tup [k, v] :: xs => if isKey k then (pairsD xs).map ((k, v) :: ·) else none
  | _ :: _ => none
def putAll (ps : List (D × D)) : List D × List D → List D × List D := fun acc => ps.foldl (fun acc p => dput acc.1 acc.2 p.1 p.2) acc
def gDictP (S : Store) : List D → Option D
  | [d] => (match der S d with
    | .lst xs => (pairsD xs).map fun ps => .dct false (putAll ps ([], [])).1 (putAll ps ([], [])).2
    | _ => none)
  | _ => none
theorem pairs_ok {K : PySem.W.Frag} {gv : Gv} {H : Hp} {Z : Addr → Prop} {c : List Addr} : ∀ {xs : List D} {vs : List V} {ps : List (D × D)}, Reps gv H Z c vs xs → pairsD xs = some ps →
    ∃ (as : List Addr) (kvs : List (Key × V)), vs = as.map V.ref ∧ Paired (fun p kv => SqT K H p [kV kv.1, kv.2]) as kvs ∧ ps.map (·.1) = kvs.map (fun p => keyD p.1) ∧ Reps gv H Z c (kvs.map (·.2)) (ps.map (·.2))
  | [], _, _, r, h => by
    cases r
    cases h
    exact ⟨[], [], rfl, .nil, rfl, .nil⟩
  | x :: xs, _, ps, r, h => by
    cases r with
    | @cons v _ vs _ rx rt =>
      match x, rx, h with
      | .tup [k, d], rx, h =>
        simp only [pairsD] at h
        cases hk : isKey k with
        | false => rw [hk] at h; cases h
        | true =>
          rw [hk, if_pos rfl, Option.map_eq_some_iff] at h
          obtain ⟨qs, hq, rfl⟩ := h
          obtain ⟨as, kvs, rfl, hp, h1, h2⟩ := pairs_ok (K := K) rt hq
          obtain ⟨κ, rfl⟩ := isKey_of hk
          obtain ⟨p, ws, rfl, hw, rs, _⟩ := (Vr.rep rx).tup
          obtain ⟨y, z, rfl, ry, rz⟩ := reps2 rs
          have ey : y = kV κ := by
            cases κ with
            | inl i => exact (Vr.rep ry).int
            | inr s => exact (Vr.rep ry).str
          subst ey
          exact ⟨p :: as, (κ, z) :: kvs, rfl, .cons (.inl (.inl hw)) hp, by simp [h1], .cons rz h2⟩
theorem putAll_ok {gv : Gv} {H : Hp} {Z : Addr → Prop} {c : List Addr} : ∀ {ps : List (D × D)} {kvs acc : List (Key × V)} {vs : List D}, ps.map (·.1) = kvs.map (fun p => keyD p.1) → Reps gv H Z c (kvs.map (·.2)) (ps.map (·.2)) → Reps gv H Z c (acc.map (·.2)) vs →
    (putAll ps (acc.map (fun p => keyD p.1), vs)).1 = (mergeK acc kvs).map (fun p => keyD p.1) ∧ Reps gv H Z c ((mergeK acc kvs).map (·.2)) (putAll ps (acc.map (fun p => keyD p.1), vs)).2
  | [], kvs, acc, vs, e, r, ra => by
    cases kvs with
    | nil => exact ⟨rfl, ra⟩
    | cons q kvs => simp at e
  | p :: ps, kvs, acc, vs, e, r, ra => by
    cases kvs with
    | nil => simp at e
    | cons q kvs =>
      simp only [List.map_cons, List.cons.injEq] at e
      simp only [List.map_cons] at r
      cases r with
      | cons r1 rt =>
        obtain ⟨h1, h2⟩ := put_of (gv := gv) (H := H) (Z := Z) (c := c) beq_keyD (k := q.1) r1 ra
        have ih := putAll_ok (ps := ps) (kvs := kvs) (acc := putK acc q.1 q.2) e.2 rt h2
        unfold putAll mergeK at ih ⊢
        simp only [List.foldl_cons]
        rw [e.1]
        have e2 : dput (acc.map (fun p => keyD p.1)) vs (keyD q.1) p.2 = ((putK acc q.1 q.2).map (fun p => keyD p.1), (dput (acc.map (fun p => keyD p.1)) vs (keyD q.1) p.2).2) := Prod.ext h1 rfl
        rw [e2]
        exact ih
theorem dictP_ok : OpN G (fun xs H Q => ∃ (a : Addr) (ps : List Addr) (kvs : List (Key × V)), xs = [.ref a] ∧ SqL X.K H a (ps.map V.ref) ∧ Paired (fun p kv => SqT X.K H p [kV kv.1, kv.2]) ps kvs ∧ ∀ p, H p = none → Q (.ref p) (upd H p (.dK (mergeK [] kvs)))) gDictP .o := by
  intro pu H Z c S vs ds e Q s h hg q
  unfold gDictP at hg
  split at hg
  · rename_i d
    obtain ⟨v, rfl, h1⟩ := vws1 h
    have h1 := h1.der s
    split at hg
    · rename_i xs e1
      rw [e1] at h1
      rw [Option.map_eq_some_iff] at hg
      obtain ⟨ps, hp, rfl⟩ := hg
      obtain ⟨a, vs, rfl, ha, rs⟩ := h1.lst
      obtain ⟨as, kvs, rfl, hpd, k1, k2⟩ := pairs_ok (K := X.K) rs hp
      obtain ⟨m1, m2⟩ := putAll_ok (acc := []) (vs := []) k1 k2 .nil
      exact ⟨a, as, kvs, rfl, .inl (.inl ha), hpd, fun p hp => q _ _ Z (Adv.new hp) (s.new hp) (RK.newO (o := .dK (mergeK [] kvs)) hp s trivial (.dK m1 m2))⟩
    · cases hg
  · cases hg
theorem pe_dictPD {fa : Dl → Store → Ress} {st : Bool} {p : Pos} (hc : X.calm = true) (hg : Gl X "dict") (hm : X.mg "dict" = none) (ha : PA X [a] (tAs G W pv fa st okm)) (he : starEach [a] X.env = (false, eval a X.env) :: starEach [] X.env) (hpl : (backTo pos (starEach [] X.env)).any (·.1) = false) :
    PE X (.Call (.Name "dict" p) [a] [] pos) (tE G W pv (finN fa gDictP) .o okm) := pe_tyD (call_dictP hc) dictP_ok hg hm PyProof.Rows.boot_dict ha (by decide) (by decide) he hpl
/-! ### xs * n -/
def gRep (S : Store) (d d' : D) : Option D := match der S d, der S d' with
  | .lst xs, .int k => if -(2 ^ 63) ≤ k ∧ k < 2 ^ 63 ∧ xs.length * k.toNat ≤ sizeLine then some (.lst (List.replicate k.toNat xs).flatten) else none
  | _, _ => none
theorem reps_rep {gv : Gv} {H : Hp} {Z : Addr → Prop} {c : List Addr} {vs : List V} {xs : List D} (h : Reps gv H Z c vs xs) : ∀ n : Nat, Reps gv H Z c (List.replicate n vs).flatten (List.replicate n xs).flatten
  | 0 => .nil
  | n + 1 => by
    rw [List.replicate_succ, List.replicate_succ, List.flatten_cons, List.flatten_cons]
    exact h.append (reps_rep h n)
theorem rep_ok : Op2 G rRep gRep .o := by
  intro pu H Z c S v w d d' e Q s h h' hg q
  have h := h.der s
  have h' := h'.der s
  unfold gRep at hg
  split at hg
  · rename_i xs k e1 e2
    rw [e1] at h; rw [e2] at h'
    split at hg
    · rename_i hl
      cases hg
      obtain ⟨a, vs, rfl, ha, rs⟩ := h.lst
      refine ⟨a, k, vs, rfl, h'.int, ha, hl.1, hl.2.1, by rw [rs.length]; exact hl.2.2, fun p hp => ?_⟩
      exact q _ _ Z (Adv.new hp) (s.new hp) (RK.newO (o := .lst (List.replicate k.toNat vs).flatten) hp s trivial (.lst (reps_rep rs _)))
    · cases hg
  · cases hg
theorem pe_repD (ha : PE X a (tE G W pv f k1 okm)) (hb : PE X b (tE G W pv f' k2 okm')) : PE X (.BinOp a .Mult b pos) (tE G W pv (fin2 f f' gRep) .o fun m => okm m ∧ okm' m) := pe_binD op_rep rep_ok ha hb
/-! ### a dict of the module that nothing writes, text by text -/
def gTab (tab : List (Str × Str)) (S : Store) (d : D) : Option D := match der S d with
  | .str z => (tab.lookup z).map D.str
  | _ => none
theorem pe_tabD {x : Str} {p : Addr} {tab : List (Str × Str)} {npos : Pos} (hg : Gl X x) (hm : X.mg x = some (.ref p)) (hdb : (x == ("__debug__" : Str)) = false) (hK : ∀ z y, tab.lookup z = some y → KDct X.K X.w p z (.str y)) (hb : PE X b (tE G W pv f k1 okm)) (hs : PlainIx b) :
    PE X (.Subscript (.Name x npos) b pos) (tE G W pv (fin1 f (gTab tab)) .z okm) := (pe_ix ix_kdict (pe_glob (v := .ref p) hg hm rfl hdb) hb hs).impD fun σ H Q q => by
  refine un_tE (r := fun y H Q => L2.rIxD X.K X.w (.ref p) y H Q) (fun pu H Z c S v d e Q s h hg q => ?_) q
  have h := h.der s
  unfold gTab at hg
  split at hg
  · rename_i z e1
    rw [e1] at h
    rw [Option.map_eq_some_iff] at hg
    obtain ⟨y, hy, rfl⟩ := hg
    exact ⟨p, z, .str y, rfl, h.str, hK z y hy, q _ H Z Adv.refl s (.str y)⟩
  · cases hg
end
end VI
end

section
set_option Elab.async false
set_option linter.all false
set_option autoImplicit false
set_option maxRecDepth 100000
set_option maxHeartbeats 2000000
/-! VJ, 7: a def held by a name is called; a comprehension becomes a cell; what is never reached -/
namespace VI
open PySem PySem.Spec L2
section
variable {G : Gc} {W : WX} {pv : Bool} {X : Cx} {rk : Kd} {m m' : List Md}
theorem cell_tE {f : Dl → Store → Res} {okm : List Md → Prop} {σ : L2.St} {H : Hp} {Q : VK} (q : tE G W pv (fCell f) .z okm σ H Q) : tE G W pv f .o okm σ H Q := by
  obtain ⟨E, m, δ, S, Z, c, R, ok, q⟩ := q
  refine ⟨E, m, δ, S, Z, c, R, ok, ?_⟩
  unfold fCell bindR at q
  cases hf : f δ S with
  | st => rw [hf] at q; exact q
  | ex j ds S' => rw [hf] at q; exact q
  | ok d S1 =>
    rw [hf] at q
    intro v H1 Z1 c1 a1 s1 rk1
    dsimp only at q
    cases hc : cellOf d with
    | none => rw [hc] at q; exact q.elim
    | some s =>
      rw [hc] at q
      dsimp only at q
      have hd := cellOf_d hc
      subst hd
      obtain ⟨p, o, rfl, h1, h2, h3, h4, h5, h6⟩ := rk1
      have g : Grow H1 Z1 c1 H1 Z1 (c1 ++ [p]) := ⟨fun _ _ h _ _ => h, fun _ _ _ h _ => h, fun _ _ h _ => h, fun _ h => h, fun n a h => by rw [List.getElem?_append_left (List.getElem?_eq_some_iff.mp h).1]; exact h⟩
      have s2 : StoreOk G.gv H1 Z1 (c1 ++ [p]) (S1 ++ [s]) := by
        refine ⟨by rw [List.length_append, List.length_append, s1.len]; rfl, ?_, fun n a e => ?_, s1.zt, s1.tb⟩
        · rw [List.nodup_append]
          exact ⟨s1.nd, by simp, fun x hx y hy e => by rw [List.mem_singleton] at hy; subst hy; subst e; exact h5 hx⟩
        · by_cases hn : n < c1.length
          · rw [List.getElem?_append_left hn] at e
            obtain ⟨sc, w, w1, w2, w3, w4, w5⟩ := s1.ok n a e
            exact ⟨sc, w, by rw [List.getElem?_append_left (by rw [← s1.len]; exact hn)]; exact w1, w2, w3, w4.mono g, w5⟩
          · rw [List.getElem?_append_right (by omega)] at e
            have hn' : n - c1.length = 0 := by
              have := (List.getElem?_eq_some_iff.mp e).1
              simp at this
              omega
            rw [hn'] at e
            cases e
            exact ⟨s, o, by rw [List.getElem?_append_right (by rw [← s1.len]; omega), ← s1.len, hn']; rfl, .inl h1, h2, h3.mono g, h4⟩
      obtain ⟨n, en, hn⟩ := a1.cn
      have a2 : Adv pv H Z c H1 Z1 (c1 ++ [p]) := ⟨a1.keep, a1.zz, a1.zn, ⟨n ++ [p], by rw [en, List.append_assoc], fun x hx => by
        rcases List.mem_append.mp hx with z | z
        · exact hn x z
        · rw [List.mem_singleton] at z; subst z; exact h6⟩, a1.tr⟩
      refine q (.ref p) H1 Z1 (c1 ++ [p]) a2 s2 (.cell ?_)
      rw [← s1.len, List.getElem?_append_right (Nat.le_refl _), Nat.sub_self]
      rfl
theorem ps_setLcCD {i : Nat} {y : Str} {py : Pos} {elt tg iter : Expr} {ifs : List Expr} {scope : Scope} {own : List (Str × Nat)} {pos spos : Pos} {t : Tgt} {fi : Dl → Store → Ress} {fc fe : Dl → Store → Res} {k : Kd} {oki okc oke : List Md → Prop} (hc : X.calm = true) (hN : X.N.Nodup) (hy : X.N[i]? = some y) (hyl : X.env.scope.names.lookup y = some .local) (him : i < m.length)
    (hsw : swapsWith (.ListComp elt [⟨tg, iter, ifs, 0⟩] scope pos) (some (.Name y py)) spos.line X.env = pure true) (ok : BlkOk X.N X.env.scope scope own) (hk : k ≠ .b) (hv : ∀ i ∈ t.slots, i ∈ own.map (·.2)) (hi : PI X tg iter (tIt G W pv fi oki))
    (hg : ∀ (s : Shared) (H : Hp) (C : Addr) (cl : List (Str × Addr)) (fp : List Addr), TgOk (X.blk s H scope (compEnvC scope cl C X.env) fp) tg t) (ht : ∀ (s : Shared) (H : Hp) (C : Addr) (cl : List (Str × Addr)) (fp : List Addr), PTs (X.blk s H scope (compEnvC scope cl C X.env) fp) ifs (tTst G W0 pv fc okc))
    (he : ∀ (s : Shared) (H : Hp) (C : Addr) (cl : List (Str × Addr)) (fp : List Addr), PE (X.blk s H scope (compEnvC scope cl C X.env) fp) elt (tE G W0 pv fe k oke)) (hs : ∀ x, foldedSetIterable iter X.env x = pure x) (hokm : okLc t (own.map (·.2)) oki okc oke m) :
    PS X (.Assign [.Name y py] (.ListComp elt [⟨tg, iter, ifs, 0⟩] scope pos) spos) (tS G W pv rk (sAsg i (fCell (fLc t fc fe fi))) m (m.set i .z)) :=
  (ps_setLc hc hN hy hyl hsw (itImp (okm' := okLc t (own.map (·.2)) oki okc oke) (fun m h => h.1) hi) ok (fun s H C cl fp => pg_tgD (G := G) (pv := pv) hc hN (hg s H C cl fp)) ht he hs).impD fun D σ H q => by
    have q2 := cell_tE (asg_tS (k := .z) (okm := okLc t (own.map (·.2)) oki okc oke) (by decide) hokm him q)
    exact lc_tE (wi := tIt G W pv fi oki) hk hv (fun m h => h.2) q2
/-! ### never reached -/
def fStuck : Dl → Store → Res := fun _ _ => .st
def sStuck : Dl → Store → SRes := fun _ _ => .st
theorem pe_stuck {e : Expr} {k : Kd} {okm : List Md → Prop} : PE X e (tE G W pv fStuck k okm) := ⟨fun pins s σ H Q I q => by
  obtain ⟨_, _, _, _, _, _, _, _, q⟩ := q
  exact q.elim⟩
theorem ps_stuck {st : Stmt} : PS X st (tS G W pv rk sStuck m m') := ⟨fun pins s σ H D I q => by
  obtain ⟨_, _, _, _, _, _, q⟩ := q
  exact q.elim⟩
end
/-! ### f(e, ..), f a name that holds a def -/
def fCallV (i : Nat) (js : List Nat) (fa : Dl → Store → Ress) (rn : Nat → List D → Store → Res) : Dl → Store → Res := fun δ S => match δ[i]? with
  | some (some (.fn j)) => if js.contains j then fCall fa (rn j) δ S else .st
  | _ => .st
section
variable {G : Gc} {pv : Bool} {X : Cx} {lk : Addr → Prop}
theorem fnR_of {P : Program} {w : World} {K : PySem.W.Frag} {mg : Str → Option Value} {base : Heap} {CX : CXT} {k : Nat} {f : Addr} {fd : FuncData} {ps : List Str} {sp : Sp} (F : FnOk P w K mg base CX k f fd ps sp) (hb : Binds K fd ps []) : FnR P w K mg base CX k f sp :=
  fun A outer s H us vs Q E hr e0 r h => F.run A outer s H ⟨us, []⟩ us vs Q E hr e0 (by
    have hl : us.length = ps.length := by rw [← r.length]; exact F.len _ _ _ _ h
    have KX : K.In s.heap := e0.mod.kin.keeps fun b o e => (e0.bs b o e).1
    simpa using hb s us KX (by rw [List.append_nil]; exact hl)) r h
theorem pe_callVD {n k i : Nat} {js : List Nat} {x : Str} {p pos : Pos} {e : Expr} {es : List Expr} {rn : Nat → List D → Store → Res} {fa : Dl → Store → Ress} {okm : List Md → Prop} {E' : XK}
    (hF : ∀ j, js.contains j = true → ∃ (f : Addr) (fd : FuncData) (ps : List Str) (pu : Bool), FnOk X.prog X.w X.K X.mg X.base (L2.CX X.prog X.w) k f fd ps (spD G n .z pu (rn j)) ∧ G.gv.f j = some (V.ref f) ∧ PySem.W.keepIn X.K (.ref f) = true ∧ Binds X.K fd ps [] ∧ (pv = true → pu = true) ∧ (pu = true ∨ ∀ a, ¬ lk a))
    (hr : Room k X.A) (tk : Takes X (fun cls d _ H' => E' cls d H')) (hN : X.N[i]? = some x) (hv : Vis X.env.scope x) (hd : (x == ("__debug__" : Str)) = false) (hcd : (x == ("__classdict__" : Str)) = false)
    (hl : ∀ δ S ds S', fa δ S = .ok ds S' → ds.length = n) (ha : PA X (e :: es) (tAs (G.L lk) (fun cls d _ H' => E' cls d H') pv fa true okm)) (he : starEach (e :: es) X.env = (false, eval e X.env) :: starEach es X.env) (hpl : (backTo pos (starEach es X.env)).any (·.1) = false) :
    PE X (.Call (.Name x p) (e :: es) [] pos) (tE (G.L lk) (fun cls d _ H' => E' cls d H') pv (fCallV i js fa rn) .z fun m => m[i]? = some .z ∧ okm m) := by
  refine ⟨fun pins s σ H Q I q => ?_⟩
  obtain ⟨E, m, δ, S, Z, c, R, ⟨hm, ok⟩, q⟩ := q
  unfold fCallV at q
  cases hδ : δ[i]? with
  | none => rw [hδ] at q; exact q.elim
  | some o =>
    rw [hδ] at q
    cases o with
    | none => exact q.elim
    | some d =>
      cases d with
      | fn j =>
        dsimp only at q
        cases hj : js.contains j with
        | false => rw [hj] at q; exact q.elim
        | true =>
          rw [hj, if_pos rfl] at q
          obtain ⟨f, fd, ps, pu, F, hf, kp, hb, h1, h2⟩ := hF j hj
          obtain ⟨v, hσ, rv⟩ := R.zs i (.fn j) hm hδ
          have ev : v = .ref f := by
            cases rv with
            | obj _ _ b => cases b
            | fn h =>
              have h : G.gv.f j = some v := h
              rw [hf] at h
              exact (Option.some.inj h).symm
          subst ev
          have h3 := call_tE (G := G) (W := fun cls d _ H' => E' cls d H') (n := n) (lk := lk) (k := .z) h1 h2 hl (okm := okm) (σ := σ) (H := H) (Q := Q) ⟨E, m, δ, S, Z, c, R, ok, q⟩
          exact (ItX.pe_callV (E := E') (fnR_of F hb) hr kp (passes_call tk fun _ _ _ _ z => z) hN hv ha hd hcd he hpl).run pins s σ H Q I ⟨hσ, h3⟩
      | _ => exact q.elim
end
end VI
end

section
set_option Elab.async false
set_option linter.all false
set_option autoImplicit false
set_option maxRecDepth 100000
set_option maxHeartbeats 2000000
/-! VJ, 8: calls by the parameters' names, the last one first; what w and K say of a law's constants; a def whose code is known -/
namespace VI
open PySem PySem.Spec L2
open PyProof.Rows (envOfC)
theorem _root_.L2.FunD.kbR {K : PySem.W.Frag} {x qual : Str} {params : Arguments} {body : List Stmt} {scope : Scope} {f : Addr} {fd : FuncData} {ps : List Str} (F : FunD K x qual params body scope [] [] f fd)
    (h : ∀ (kV doc pm : Value) (an : Option Addr) (cdv ct : Value) (ws : List Value), ws.length = ps.length → bindArgs (PySem.W.fnOf x qual params body scope .none kV doc pm an cdv ct) ⟨[], ps.reverse.zip ws⟩ = pure (ps.zip ws.reverse)) :
    ∀ (s : Shared) (ws : List Value), K.In s.heap → ws.length = ps.reverse.length → BindsTo s fd ⟨[], ps.reverse.zip ws⟩ (ps.zip ws.reverse) := fun s ws _ hl => by
  obtain ⟨oc, od, dV, kV, doc, pm, an, cdv, ct, osl, rfl, lk, hcd, hD, hK⟩ := F.ex
  rcases hD with ⟨_, rfl⟩ | ⟨e', _⟩
  · exact .of_eq (h kV doc pm an cdv ct ws (by simpa using hl))
  · exact absurd rfl e'
theorem vals_rev : ∀ {vs : List V} {us : List Value}, Vals vs us → Vals vs.reverse us.reverse
  | [], _, h => by cases h; exact .nil
  | v :: vs, _, h => by
    cases h with
    | cons r t =>
      rw [List.reverse_cons, List.reverse_cons]
      exact Vals.append (vals_rev t) (.cons r .nil)
section
variable {G : Gc} {W : WX} {pv : Bool} {X : Cx} {lk : Addr → Prop}
theorem pe_callKR {k : Nat} {kd : Kd} {pu : Bool} {f : Addr} {fd : FuncData} {ps : List Str} {x : Str} {p pos : Pos} {kws : List Keyword} {g : List D → Store → Res} {fa : Dl → Store → Ress} {okm : List Md → Prop} (F : FnOk X.prog X.w X.K X.mg X.base (L2.CX X.prog X.w) k f fd ps (spD G ps.length kd pu g)) (hr : Room k X.A) (hg : Gl X x) (hm : X.mg x = some (.ref f)) (hk : PySem.W.keepIn X.K (.ref f) = true)
    (hb : ∀ (s : Shared) (ws : List Value), X.K.In s.heap → ws.length = ps.reverse.length → BindsTo s fd ⟨[], ps.reverse.zip ws⟩ (ps.zip ws.reverse)) (tk : Takes X W) (hp : pv = true → pu = true) (hlk : pu = true ∨ ∀ a, ¬ lk a) (hl : ∀ δ S ds S', fa δ S = .ok ds S' → ds.length = ps.reverse.length) (hkw : PK X kws (tAs (G.L lk) W pv fa true okm))
    (hall : (backToKw pos (keywordEach kws X.env)).all (·.1.isSome) = true) (hks : (backToKw pos (keywordEach kws X.env)).filterMap (·.1) = ps.reverse) (hdb : (x == ("__debug__" : Str)) = false) (hpl : ((backTo pos (starEach [] X.env)).any (·.1) || (backToKw pos (keywordEach kws X.env)).any (·.1.isNone)) = false) :
    PE X (.Call (.Name x p) [] kws pos) (tE (G.L lk) W pv (fCall fa fun ds S => g ds.reverse S) kd okm) :=
  pe_callKD (ks := ps.reverse) (ga := List.reverse) (gV := List.reverse) (gD := List.reverse) F hr hg hm hk hb tk (fun _ _ _ h => vals_rev h) (fun _ h => h.reverse) (fun ds h => by simpa using h) hp hlk hl hkw hall hks hdb hpl
end
/-- a def whose code object is asked for -/
theorem okDc {P : Program} {w : World} {K : PySem.W.Frag} {mg : Str → Option Value} {base : Heap} {G : Gc} {x qual : Str} {params : Arguments} {body : List Stmt} {scope : Scope} {f : Addr} {fd : FuncData} {N ps : List Str} {k : Nat} {rk : Kd} {pu : Bool} {fb : Dl → Store → SRes} {m1 : List Md} (F : FunD K x qual params body scope [] [] f fd) (S : FnScope N ps scope)
    (hb : ∀ (lk : Addr → Prop) (cdv : Value) (A : Around) (outer : List Env) (s : Shared) (H : Hp) (E : XK), (∃ oc od osl fd', K.lookup f = some ⟨oc, od, .func fd', osl⟩ ∧ fd'.code = cdv) → (pu = true ∨ ∀ a, ¬ lk a) → Room k (A.deeper (envOfC qual scope s.heap.objs.size f cdv)) →
      PSs (cxOf (L2.CX P w) P w K mg base N qual scope f cdv A outer s H E) body (tS (G.L lk) (fun cls d _ H' => E cls d H') pu rk fb (md0 N.length ps.length) m1)) :
    FnOk P w K mg base (L2.CX P w) (k + 1) f fd ps (spD G ps.length rk pu (runD N.length rk fb)) := by
  have hN : ps.length ≤ N.length := by
    have h := congrArg List.length S.pre
    rw [List.length_take] at h
    omega
  obtain ⟨oc, od, dV, kV, doc, pm, an, cdv, ct, osl, rfl, lkf, hcd, _, _⟩ := F.ex
  refine fn_of lkf hcd S (fun vs H Q E h => h.1) fun A outer s H vs Q E hr h => ?_
  obtain ⟨hl, lk, Z, c, S0, ds, hk, st, rs, q⟩ := h
  refine ⟨_, hb lk cdv A outer s H E ⟨oc, od, osl, _, lkf, rfl⟩ hk hr, ⟨H, Z, c, fun _ _ _ => True, fun _ _ _ _ _ _ _ h => h⟩, ds.map some ++ List.replicate (N.length - ds.length) none, S0, Z, c, ?_, ?_⟩
  · have R := rst0 (pu := pu) (N := N) st rs (by rw [hl]; exact hN)
    rw [hl] at R
    exact R
  · unfold runD at q
    cases hf : fb (ds.map some ++ List.replicate (N.length - ds.length) none) S0 with
    | st => rw [hf] at q; exact q.elim
    | ex j ds' S' => rw [hf] at q; exact fun σ' H' Z' c' cls dd a s' x => q H' Z' c' cls dd a s' x
    | ret d S' => rw [hf] at q; exact fun v H' Z' c' a s' x => q v H' Z' c' a s' x
    | nx δ' S' =>
      rw [hf] at q
      cases rk with
      | z => exact fun σ' H' Z' c' R => q .non H' Z' c' R.adv R.st .non
      | o => exact q.elim
      | b => exact q.elim
end VI
end

section
set_option Elab.async false
set_option linter.all false
set_option autoImplicit false
set_option maxRecDepth 100000
set_option maxHeartbeats 2000000
/-! VJ, 9: own classes in except clauses -/
namespace VI
open PySem PySem.Spec L2
open He (ga ma)
section
variable {T : Tb} {C : ClT} {nd nc : Nat} {free : List Str} {K : PySem.W.Frag} {mg : Str → Option Value}
theorem Cs.inj (c : Cs T C nd nc free K mg) {a b : Nat} (ha : a < nc) (hb : b < nc) (e : ga K (C.nm a) = ga K (C.nm b)) : a = b := by
  have n1 : ((List.range nc).map fun j => ga K (C.nm j))[a]? = ((List.range nc).map fun j => ga K (C.nm j))[b]? := by
    rw [List.getElem?_map, List.getElem?_map, List.getElem?_range ha, List.getElem?_range hb]
    exact congrArg some e
  have la : a < ((List.range nc).map fun j => ga K (C.nm j)).length := by simpa using ha
  have lb : b < ((List.range nc).map fun j => ga K (C.nm j)).length := by simpa using hb
  rw [List.getElem?_eq_getElem la, List.getElem?_eq_getElem lb] at n1
  exact (List.getElem_inj c.nd).mp (Option.some.inj n1)
theorem Cs.exm1 (c : Cs T C nd nc free K mg) {j k : Nat} (hj : j < nc) (hk : k < nc) (h0 : k ≠ 0) : PySem.W.exmOne K (.ref (ga K (C.nm j))) (.ref (ga K (C.nm k))) = some (decide (j = k)) := by
  obtain ⟨m1, _⟩ := c.cls hj
  obtain ⟨_, xc, ty, _⟩ := c.cls hk
  unfold PySem.W.exmOne PySem.W.kitCls
  dsimp only
  rw [xc.sb, xc.cl, ty]
  simp only [Bool.true_and, beq_self_eq_true, if_true]
  unfold PySem.W.subIn PySem.W.mroIn
  rw [Option.map_eq_some_iff] at m1
  obtain ⟨cd, e1, e2⟩ := m1
  dsimp only
  have e3 : (mroL K (ga K (C.nm 0)) (ga K (C.nm j))).isEmpty = false := by unfold mroL; split <;> rfl
  rw [e1, Option.bind_some, e2, e3]
  show some ((mroL K (ga K (C.nm 0)) (ga K (C.nm j))).contains (.ref (ga K (C.nm k)))) = some (decide (j = k))
  rw [mro_has]
  have z0 : ga K (C.nm k) ≠ ga K (C.nm 0) := fun e => h0 (c.inj hk (Nat.lt_of_le_of_lt (Nat.zero_le _) hk) e)
  by_cases e : j = k
  · subst e
    simp
  · have z1 : ga K (C.nm k) ≠ ga K (C.nm j) := fun z => e (c.inj hj hk z.symm)
    simp [z0, z1, e]
theorem Cs.told (c : Cs T C nd nc free K mg) {gv : Gv} (g : Gx C nc K gv) (R : List (Nat × Str × Str)) (hR : ∀ r ∈ R, r.1 < nc ∧ r.1 ≠ 0 ∧ C.fl r.1 = [r.2.2]) : ToldOk K gv (R.map fun r => (r.1, ga K (C.nm r.1), r.2.1, r.2.2)) := by
  refine ⟨fun r hr => ?_, fun r hr r' hr' => ?_⟩
  · obtain ⟨q, hq, rfl⟩ := List.mem_map.mp hr
    obtain ⟨h1, h2, h3⟩ := hR q hq
    exact ⟨by rw [g.x, if_pos h1, h3], (c.cls h1).2.1, (c.oex h1 h3).2.2.2⟩
  · obtain ⟨q, hq, rfl⟩ := List.mem_map.mp hr
    obtain ⟨q', hq', rfl⟩ := List.mem_map.mp hr'
    exact c.exm1 (hR q hq).1 (hR q' hq').1 (hR q' hq').2.1
end
end VI
end

section
set_option Elab.async false
set_option linter.all false
set_option autoImplicit false
set_option maxRecDepth 100000
set_option maxHeartbeats 2000000
/-! VJ, 10: a for over a dict that is empty -/
namespace VI
open PySem PySem.Spec L2
def sForE (i : Nat) : Dl → Store → SRes := fun δ S => match δ[i]? with
  | some (some (.dct false [] [])) => .nx δ S
  | _ => .st
section
variable {G : Gc} {W : WX} {pv : Bool} {X : Cx} {rk : Kd} {m : List Md}
theorem PS.orD {st : Stmt} {t t' : TS} (h : PS X st t) (h' : PS X st t') : PS X st (fun D σ H => t D σ H ∨ t' D σ H) := ⟨fun pins s σ H D I q => q.elim (h.run pins s σ H D I) (h'.run pins s σ H D I)⟩
theorem ps_forED {i : Nat} {x : Str} {tg : Expr} {body : List Stmt} {p pos : Pos} (hp : PassesOwn (model X.prog X.w) X.A X.env X.xe) (hc : X.calm = true) (hN : X.N[i]? = some x) (hv : Vis X.env.scope x) (hd : (x == ("__debug__" : Str)) = false) (hcd : (x == ("__classdict__" : Str)) = false) (hm : m[i]? = some .z)
    (hs : ∀ z, foldedSetIterable (.Name x p) X.env z = pure z) : PS X (.For tg (.Name x p) body [] pos) (tS G W pv rk (sForE i) m m) := by
  have h1 : PS X (.For tg (.Name x p) body [] pos) (tFor (iKeys (tVar i)) (fun _ _ _ _ => False) (fun _ _ _ => False)) :=
    ps_for hp hc (pi_keys (pe_var hN hv hd hcd)) ⟨fun _ _ _ _ _ _ _ _ _ z => z.elim⟩ ⟨fun _ _ _ _ _ _ z => z.elim⟩ hs
  refine (PS.orD h1 (ps_lock h1)).impD fun D σ H q => ?_
  obtain ⟨E, δ, S, Z, c, R, q⟩ := q
  unfold sForE at q
  split at q
  · rename_i hδ
    obtain ⟨v, hσ, rv⟩ := R.zs i _ hm hδ
    obtain ⟨a, o, rfl, ha, hb⟩ := (Vr.rep rv).dct
    obtain ⟨kvs, rfl, e, _⟩ := bd_dK hb
    have ek : kvs = [] := by
      cases kvs with
      | nil => rfl
      | cons _ _ => simp at e
    subst ek
    have qn := q σ H Z c R
    rcases ha with ha | ⟨_, ob, ha⟩
    · refine .inr ⟨a, .dK [], ha, trivial, fun od => ⟨.ref a, hσ, a, od, rfl, .inl ⟨[], upd_same, fun k mm σ' H' => k = 0 ∧ σ' = σ ∧ H' = upd H a (.frz od (.dK [])), ⟨0, rfl, rfl, rfl⟩, ?_⟩⟩⟩
      rintro k mm σ' H' ⟨rfl, rfl, rfl⟩
      refine .inl ⟨⟨upd_same, Nat.le_refl _⟩, upd_same, ?_⟩
      have eH : upd (upd H a (.frz od (.dK []))) a (.dK []) = H := by
        rw [upd_upd]
        funext b
        by_cases hb : b = a
        · rw [hb, upd_same, ha]
        · rw [upd_ne hb]
      rw [eH]
      exact qn
    · refine .inl ⟨.ref a, hσ, a, ob, rfl, .inl ⟨[], ha, fun k mm σ' H' => k = 0 ∧ σ' = σ ∧ H' = H, ⟨0, rfl, rfl, rfl⟩, ?_⟩⟩
      rintro k mm σ' H' ⟨rfl, rfl, rfl⟩
      exact .inl ⟨⟨ha, Nat.le_refl _⟩, qn⟩
  · exact q.elim
end
end VI
end

section
set_option Elab.async false
set_option linter.all false
set_option autoImplicit false
set_option maxRecDepth 100000
set_option maxHeartbeats 0
namespace K01
open PySem PySem.Spec L2 VI
open PyProof.Rows (envOfC)
open LamX (lamS_by)
def kit (j k : Nat) : Option Bool := some (j == k || k == 0 || k == 7)
def tab_TURNS : List (Str × Str) := [(("up" : Str), ("down" : Str)), (("down" : Str), ("up" : Str)), (("both" : Str), ("else" : Str)), (("else" : Str), ("both" : Str))]
def toldC : List (Nat × Str) := [(1, ("formula" : Str)), (3, ("place" : Str)), (2, ("part" : Str))]
/-! the bodies -/
def b_0 (rn : Nat → List VI.D → Store → Res) : Dl → Store → SRes := sSeq (sRet (fAnd (fin1 (fVar 0) (gIsi1 [.int])) (fin1 (fin1 (fVar 0) (gIsi1 [.bool])) gNot))) sNil
def b_1 (rn : Nat → List VI.D → Store → Res) : Dl → Store → SRes := sSeq (sRet (fAnd (fCall (consR (fVar 0) fNil) (rn 0)) (fin2 (fVar 0) (fCon (.int 0)) gGe))) sNil
def b_2 (rn : Nat → List VI.D → Store → Res) : Dl → Store → SRes := sSeq (sRet (fin1 (fVar 0) (fun S d => if 2 ≤ 1000 then gIsi1 [.list, .tuple] S d else none))) sNil
def b_3 (rn : Nat → List VI.D → Store → Res) : Dl → Store → SRes := sSeq (sRet (fAnd (fCall (consR (fVar 0) fNil) (rn 2)) (fin2 (finN (consR (fVar 0) fNil) gLen) (fVar 1) (gEq false)))) sNil
def b_4 (rn : Nat → List VI.D → Store → Res) : Dl → Store → SRes := sSeq (sRet (fin1 (fVar 0) (gIsi1 [.str]))) sNil
def ce_5_0 (rn : Nat → List VI.D → Store → Res) : Dl → Store → Res := (fin2 (fVar 1) (fCon (.str "abcdefghijklmnopqrstuvwxyz")) (gIn false))
def b_5 (rn : Nat → List VI.D → Store → Res) : Dl → Store → SRes := sSeq (sRet (fAnd (fCall (consR (fVar 0) fNil) (rn 4)) (fAnd (fin2 (finN (consR (fVar 0) fNil) gLen) (fCon (.int 0)) gGt) (finN (consR (fLc (.one 1) fYes (ce_5_0 rn) (fItP true (fVar 0))) fNil) (gBools fun bs => .bl (bs.all id)))))) sNil
def b_6 (rn : Nat → List VI.D → Store → Res) : Dl → Store → SRes := sSeq (sRet (fAnd (fCall (consR (fVar 0) fNil) (rn 5)) (fin2 (finN (consR (fVar 0) fNil) gLen) (fCon (.int 8)) gLe))) sNil
def b_7 (rn : Nat → List VI.D → Store → Res) : Dl → Store → SRes := sSeq (sRet (fin2 (fin2 (fVar 0) (fCon (.int 0)) gIx) (fTup (consR (fCon (.str "up")) (consR (fCon (.str "down")) fNil))) (gIn false))) sNil
def b_8 (rn : Nat → List VI.D → Store → Res) : Dl → Store → SRes := sSeq (sIf (fCall (consR (fVar 0) (consR (fCon (.int 2)) fNil)) (rn 3)) (sSeq (sRet (fAnd (fCall (consR (fin2 (fVar 0) (fCon (.int 0)) gIx) fNil) (rn 4)) (fAnd (fin2 (fin2 (fVar 0) (fCon (.int 0)) gIx) (fTup (consR (fCon (.str "up")) (consR (fCon (.str "down")) fNil))) (gIn false)) (fCall (consR (fin2 (fVar 0) (fCon (.int 1)) gIx) fNil) (rn 6))))) sNil) sNil)
  (sSeq (sIf (fOr (fin1 (fCall (consR (fVar 0) (consR (fCon (.int 3)) fNil)) (rn 3)) gNot) (fOr (fin1 (fCall (consR (fin2 (fVar 0) (fCon (.int 0)) gIx) fNil) (rn 4)) gNot) (fin2 (fin2 (fVar 0) (fCon (.int 0)) gIx) (fTup (consR (fCon (.str "both")) (consR (fCon (.str "else")) fNil))) (gIn true)))) (sSeq (sRet (fCon (.bl false))) sNil) sNil)
  (sSeq (sRet (fAnd (fCall (consR (fin2 (fVar 0) (fCon (.int 1)) gIx) fNil) (rn 8)) (fCall (consR (fin2 (fVar 0) (fCon (.int 2)) gIx) fNil) (rn 8)))) sNil))
def b_9 (rn : Nat → List VI.D → Store → Res) : Dl → Store → SRes := sSeq (sIf (fCall (consR (fVar 0) fNil) (rn 7)) (sSeq (sRet (fTup (consR (fin2 (fVar 0) (fCon (.int 0)) gIx) (consR (fin2 (fVar 0) (fCon (.int 1)) gIx) fNil)))) sNil) sNil)
  (sSeq (sRet (fTup (consR (fin2 (fVar 0) (fCon (.int 0)) gIx) (consR (fCall (consR (fin2 (fVar 0) (fCon (.int 1)) gIx) fNil) (rn 9)) (consR (fCall (consR (fin2 (fVar 0) (fCon (.int 2)) gIx) fNil) (rn 9)) fNil))))) sNil)
def b_10 (rn : Nat → List VI.D → Store → Res) : Dl → Store → SRes := sSeq (sIf (fin1 (fCall (consR (fVar 0) fNil) (rn 8)) gNot) (sSeq (sRaise 1 (fVar 0)) sNil) sNil) sNil
def b_11 (rn : Nat → List VI.D → Store → Res) : Dl → Store → SRes := sSeq (sIf (fCall (consR (fVar 0) fNil) (rn 7)) (sSeq (sRet (fTup (consR (fin1 (fin2 (fVar 0) (fCon (.int 0)) gIx) (gTab tab_TURNS)) (consR (fin2 (fVar 0) (fCon (.int 1)) gIx) fNil)))) sNil) sNil)
  (sSeq (sRet (fTup (consR (fin1 (fin2 (fVar 0) (fCon (.int 0)) gIx) (gTab tab_TURNS)) (consR (fCall (consR (fin2 (fVar 0) (fCon (.int 1)) gIx) fNil) (rn 11)) (consR (fCall (consR (fin2 (fVar 0) (fCon (.int 2)) gIx) fNil) (rn 11)) fNil))))) sNil)
def b_12 (rn : Nat → List VI.D → Store → Res) : Dl → Store → SRes := sSeq (sExpr (fCall (consR (fVar 0) fNil) (rn 10)))
  (sSeq (sRet (fCall (consR (fVar 0) fNil) (rn 11))) sNil)
def b_13 (rn : Nat → List VI.D → Store → Res) : Dl → Store → SRes := sSeq (sIf (fCall (consR (fVar 0) fNil) (rn 7)) (sSeq (sRet (fCell (fLst (consR (fTup (consR (fin2 (fVar 0) (fCon (.int 0)) gIx) (consR (fin2 (fVar 0) (fCon (.int 1)) gIx) fNil))) fNil)))) sNil) sNil)
  (sSeq (sRet (fCell (fin2 (fCall (consR (fin2 (fVar 0) (fCon (.int 1)) gIx) fNil) (rn 13)) (fCall (consR (fin2 (fVar 0) (fCon (.int 2)) gIx) fNil) (rn 13)) gCat))) sNil)
def b_14 (rn : Nat → List VI.D → Store → Res) : Dl → Store → SRes := sSeq (sExpr (fCall (consR (fVar 0) fNil) (rn 10)))
  (sSeq (sRet (fCall (consR (fVar 0) fNil) (rn 13))) sNil)
def b_15 (rn : Nat → List VI.D → Store → Res) : Dl → Store → SRes := sSeq (sExpr (fCall (consR (fVar 0) fNil) (rn 10)))
  (sSeq (sRet (finN (consR (fCall (consR (fVar 0) fNil) (rn 13)) fNil) gLen)) sNil)
def b_16 (rn : Nat → List VI.D → Store → Res) : Dl → Store → SRes := sSeq (sRet (fIf (fCall (consR (fVar 0) fNil) (rn 7)) (fCon (.int 0)) (fin2 (fCon (.int 1)) (finN (consR (fCall (consR (fin2 (fVar 0) (fCon (.int 1)) gIx) fNil) (rn 16)) (consR (fCall (consR (fin2 (fVar 0) (fCon (.int 2)) gIx) fNil) (rn 16)) fNil)) gMax2) gAdd))) sNil
def b_17 (rn : Nat → List VI.D → Store → Res) : Dl → Store → SRes := sSeq (sExpr (fCall (consR (fVar 0) fNil) (rn 10)))
  (sSeq (sRet (fCall (consR (fVar 0) fNil) (rn 16))) sNil)
def ce_18_0 (rn : Nat → List VI.D → Store → Res) : Dl → Store → Res := (fVar 2)
def ce_18_1 (rn : Nat → List VI.D → Store → Res) : Dl → Store → Res := (fCon (.bl true))
def b_18 (rn : Nat → List VI.D → Store → Res) : Dl → Store → SRes := sSeq (sExpr (fCall (consR (fVar 0) fNil) (rn 10)))
  (sSeq (sRet (fCell (finN (consR (fDc (.tup [1, 2]) (ce_18_0 rn) (ce_18_1 rn) (fItP true (fCall (consR (fVar 0) fNil) (rn 13)))) fNil) gList))) sNil)
def ce_19_0 (rn : Nat → List VI.D → Store → Res) : Dl → Store → Res := (fCell (fin2 (fLst (consR (fCon (.int 0)) fNil)) (fVar 1) gCat))
def ce_19_1 (rn : Nat → List VI.D → Store → Res) : Dl → Store → Res := (fCell (fin2 (fLst (consR (fCon (.int 1)) fNil)) (fVar 1) gCat))
def b_19 (rn : Nat → List VI.D → Store → Res) : Dl → Store → SRes := sSeq (sIf (fCall (consR (fVar 0) fNil) (rn 7)) (sSeq (sRet (fCell (fLst (consR (fCell (fLst fNil)) fNil)))) sNil) sNil)
  (sSeq (sRet (fCell (fin2 (fin2 (fLst (consR (fCell (fLst fNil)) fNil)) (fLc (.one 1) fYes (ce_19_0 rn) (fItP true (fCall (consR (fin2 (fVar 0) (fCon (.int 1)) gIx) fNil) (rn 19)))) gCat) (fLc (.one 1) fYes (ce_19_1 rn) (fItP true (fCall (consR (fin2 (fVar 0) (fCon (.int 2)) gIx) fNil) (rn 19)))) gCat))) sNil)
def b_20 (rn : Nat → List VI.D → Store → Res) : Dl → Store → SRes := sSeq (sExpr (fCall (consR (fVar 0) fNil) (rn 10)))
  (sSeq (sRet (fCall (consR (fVar 0) fNil) (rn 19))) sNil)
def fb_21_0 (rn : Nat → List VI.D → Store → Res) : Dl → Store → SRes := (sSeq (sIf (fOr (fCall (consR (fVar 0) fNil) (rn 7)) (fOr (fin1 (fCall (consR (fVar 2) fNil) (rn 1)) gNot) (fin2 (fVar 2) (fCon (.int 1)) gGt))) (sSeq (sRet (fCon (.bl false))) sNil) sNil) (sSeq (sAsg 0 (fin2 (fVar 0) (fin2 (fCon (.int 1)) (fVar 2) gAdd) gIx)) sNil))
def b_21 (rn : Nat → List VI.D → Store → Res) : Dl → Store → SRes := sSeq (sIf (fin1 (fCall (consR (fVar 1) fNil) (rn 2)) gNot) (sSeq (sRet (fCon (.bl false))) sNil) sNil)
  (sSeq (sFor (.one 2) (fItP true (fVar 1)) (fb_21_0 rn))
  (sSeq (sRet (fCon (.bl true))) sNil))
def fb_22_0 (rn : Nat → List VI.D → Store → Res) : Dl → Store → SRes := (sSeq (sAsg 0 (fin2 (fVar 0) (fin2 (fCon (.int 1)) (fVar 2) gAdd) gIx)) sNil)
def b_22 (rn : Nat → List VI.D → Store → Res) : Dl → Store → SRes := sSeq (sFor (.one 2) (fItP true (fVar 1)) (fb_22_0 rn))
  (sSeq (sRet (fVar 0)) sNil)
def b_23 (rn : Nat → List VI.D → Store → Res) : Dl → Store → SRes := sSeq (sExpr (fCall (consR (fVar 0) fNil) (rn 10)))
  (sSeq (sIf (fin1 (fCall (consR (fVar 0) (consR (fVar 1) fNil)) (rn 21)) gNot) (sSeq (sRaise 3 (fVar 1)) sNil) sNil) sNil)
def b_24 (rn : Nat → List VI.D → Store → Res) : Dl → Store → SRes := sSeq (sExpr (fCall (consR (fVar 0) (consR (fVar 1) fNil)) (rn 23)))
  (sSeq (sRet (fCall (consR (fCall (consR (fVar 0) (consR (fVar 1) fNil)) (rn 22)) fNil) (rn 9))) sNil)
def b_25 (rn : Nat → List VI.D → Store → Res) : Dl → Store → SRes := sSeq (sIf (fin2 (finN (consR (fVar 1) fNil) gLen) (fCon (.int 0)) (gEq false)) (sSeq (sRet (fCall (consR (fVar 2) fNil) (rn 9))) sNil) sNil)
  (sSeq (sAsg 3 (fLst (consR (fin2 (fVar 0) (fCon (.int 1)) gIx) (consR (fin2 (fVar 0) (fCon (.int 2)) gIx) fNil))))
  (sSeq (sSet 3 (fin2 (fVar 1) (fCon (.int 0)) gIx) (fCall (consR (fin2 (fVar 3) (fin2 (fVar 1) (fCon (.int 0)) gIx) gIx) (consR (fSl (fVar 1) (some (fCon (.int 1))) none gSlL) (consR (fVar 2) fNil))) (rn 25)))
  (sSeq (sRet (fTup (consR (fin2 (fVar 0) (fCon (.int 0)) gIx) (consR (fCall (consR (fin2 (fVar 3) (fCon (.int 0)) gIx) fNil) (rn 9)) (consR (fCall (consR (fin2 (fVar 3) (fCon (.int 1)) gIx) fNil) (rn 9)) fNil))))) sNil)))
def b_26 (rn : Nat → List VI.D → Store → Res) : Dl → Store → SRes := sSeq (sExpr (fCall (consR (fVar 0) (consR (fVar 1) fNil)) (rn 23)))
  (sSeq (sIf (fin1 (fCall (consR (fVar 2) fNil) (rn 8)) gNot) (sSeq (sRaise 2 (fVar 2)) sNil) sNil)
  (sSeq (sRet (fCall (consR (fVar 0) (consR (finN (consR (fVar 1) fNil) gList) (consR (fVar 2) fNil))) (rn 25))) sNil))
def b_27 (rn : Nat → List VI.D → Store → Res) : Dl → Store → SRes := sSeq (sRet (fCell (fLst (consR (fCell (finN (consR (fVar 0) fNil) gList)) (consR (fCon (.int 0)) (consR (fCon (.int 0)) (consR (fCon (.int 29)) fNil))))))) sNil
def wt_28_0 (rn : Nat → List VI.D → Store → Res) : Dl → Store → Res := (fAnd (fin2 (fin2 (fVar 0) (fCon (.int 1)) gIx) (fCon (.int 0)) (gEq false)) (fin2 (fin2 (fVar 0) (fCon (.int 0)) gIx) (fLst fNil) (gEq true)))
def wb_28_0 (rn : Nat → List VI.D → Store → Res) : Dl → Store → SRes := (sSeq (sAsg 3 (finN (consR (fCm (fin2 (fVar 0) (fCon (.int 0)) gIx) (consR (fCon (.int 0)) fNil) mPopAt) fNil) gAbs)) (sSeq (sCset (fVar 0) (fCon (.int 3)) (fin2 (finN (consR (fin2 (fin2 (fin2 (fin2 (fVar 0) (fCon (.int 3)) gIx) (fCon (.int 6151)) gMul) (fVar 3) gAdd) (fCon (.int 5)) gAdd) fNil) gInt1) (fCon (.int 2147483647)) gMod)) (sSeq (sCset (fVar 0) (fCon (.int 1)) (fIf (fin2 (fVar 3) (fin2 (fCon (.int 10)) (fCon (.int 18)) gPow) gGe) (fVar 3) (fCon (.int 0)))) sNil)))
def b_28 (rn : Nat → List VI.D → Store → Res) : Dl → Store → SRes := sSeq (sCset (fVar 0) (fCon (.int 2)) (fin2 (fin2 (fVar 0) (fCon (.int 2)) gIx) (fCon (.int 1)) gAdd))
  (sSeq (whileD (wt_28_0 rn) (wb_28_0 rn) 70)
  (sSeq (sIf (fin2 (fin2 (fVar 0) (fCon (.int 1)) gIx) (fCon (.int 0)) gGt) (sSeq (sAsg 4 (fin2 (finN (consR (fin2 (fVar 0) (fCon (.int 1)) gIx) fNil) gInt1) (fVar 1) gMod)) (sSeq (sCset (fVar 0) (fCon (.int 1)) (fin2 (fin2 (fVar 0) (fCon (.int 1)) gIx) (fVar 1) gFdv)) (sSeq (sRet (fVar 4)) sNil))) sNil)
  (sSeq (sAsg 2 (fin2 (finN (consR (fin2 (fin2 (fin2 (fin2 (fVar 0) (fCon (.int 3)) gIx) (fin2 (fCon (.int 7907)) (fin2 (fVar 0) (fCon (.int 2)) gIx) gMul) gAdd) (fCon (.int 104723)) gAdd) (fCon (.int 5)) gPow) fNil) gInt1) (fCon (.int 2147483629)) gMod))
  (sSeq (sRet (fin2 (fin2 (finN (consR (fin2 (fin2 (fin2 (fin2 (fVar 2) (fCon (.int 48271)) gMul) (fin2 (fCon (.int 30011)) (fin2 (fVar 0) (fCon (.int 2)) gIx) gMul) gAdd) (fCon (.int 31)) gAdd) (fCon (.int 3)) gPow) fNil) gInt1) (fCon (.int 1000000007)) gMod) (fVar 1) gMod)) sNil))))
def b_29 (rn : Nat → List VI.D → Store → Res) : Dl → Store → SRes := sSeq (sRet (fin2 (fVar 1) (fCall (consR (fVar 0) (consR (finN (consR (fVar 1) fNil) gLen) fNil)) (rn 28)) gIx)) sNil
def b_30 (rn : Nat → List VI.D → Store → Res) : Dl → Store → SRes := sSeq sStuck
  (sSeq sStuck
  (sSeq sStuck sNil))
def ce_31_0 (rn : Nat → List VI.D → Store → Res) : Dl → Store → Res := (fCall (consR (fVar 3) (consR (fVar 4) fNil)) (rn 31))
def ce_31_1 (rn : Nat → List VI.D → Store → Res) : Dl → Store → Res := (fCall (consR (fin2 (fVar 0) (fVar 2) gIx) (consR (fin2 (fVar 1) (fVar 2) gIx) fNil)) (rn 31))
def b_31 (rn : Nat → List VI.D → Store → Res) : Dl → Store → SRes := sSeq (sIf (fin1 (fVar 1) (fun S d => if 2 ≤ 1000 then gIsi1 [.list, .tuple] S d else none)) (sSeq (sIf (fOr (fin2 (fin1 (fVar 0) (gIsi1 [.list])) (fin1 (fVar 1) (gIsi1 [.list])) (gEq true)) (fin2 (fin1 (fVar 0) (gIsi1 [.tuple])) (fin1 (fVar 1) (gIsi1 [.tuple])) (gEq true))) (sSeq (sRet (fCon (.bl false))) sNil) sNil) (sSeq (sRet (fAnd (fin2 (finN (consR (fVar 0) fNil) gLen) (finN (consR (fVar 1) fNil) gLen) (gEq false)) (finN (consR (fLc (.tup [3, 4]) fYes (ce_31_0 rn) (fZip true (consR (fVar 0) (consR (fVar 1) fNil)))) fNil) (gBools fun bs => .bl (bs.all id))))) sNil)) sNil)
  (sSeq (sIf (fin1 (fVar 1) (gIsi1 [.dict])) (sSeq (sIf (fOr (fin1 (fin1 (fVar 0) (gIsi1 [.dict])) gNot) (fin1 (fCall (consR (finN (consR (fVar 0) fNil) gList) (consR (finN (consR (fVar 1) fNil) gList) fNil)) (rn 31)) gNot)) (sSeq (sRet (fCon (.bl false))) sNil) sNil) (sSeq (sRet (finN (consR (fLc (.one 2) fYes (ce_31_1 rn) (fKeys true 1)) fNil) (gBools fun bs => .bl (bs.all id)))) sNil)) sNil)
  (sSeq (sIf (fin2 (fVar 1) (fCon .non) (gIsN false)) (sSeq (sRet (fin2 (fVar 0) (fCon .non) (gIsN false))) sNil) sNil)
  (sSeq (sIf (fin1 (fVar 1) (gIsi1 [.bool])) (sSeq (sRet (fAnd (fin1 (fVar 0) (gIsi1 [.bool])) (fin2 (fVar 0) (fVar 1) (gEq false)))) sNil) sNil)
  (sSeq (sIf (fin1 (fVar 1) (gIsi1 [.int])) (sSeq (sRet (fAnd (fin1 (fVar 0) (gIsi1 [.int])) (fAnd (fin1 (fin1 (fVar 0) (gIsi1 [.bool])) gNot) (fin2 (fVar 0) (fVar 1) (gEq false))))) sNil) sNil)
  (sSeq (sRet (fAnd (fin1 (fVar 0) (gIsi1 [.str])) (fin2 (fVar 0) (fVar 1) (gEq false)))) sNil)))))
def ce_32_0 (rn : Nat → List VI.D → Store → Res) : Dl → Store → Res := (fCall (consR (fVar 3) fNil) (rn 32))
def b_32 (rn : Nat → List VI.D → Store → Res) : Dl → Store → SRes := sSeq (sIf (fin1 (fVar 0) (gIsi1 [.list])) (sSeq (sRet (fLc (.one 3) fYes (ce_32_0 rn) (fItP true (fVar 0)))) sNil) sNil)
  (sSeq (sIf (fin1 (fVar 0) (gIsi1 [.tuple])) (sSeq (sRet (finN (consR (fLc (.one 3) fYes (ce_32_0 rn) (fItP true (fVar 0))) fNil) gTuple)) sNil) sNil)
  (sSeq (sIf (fin1 (fVar 0) (gIsi1 [.dict])) (sSeq (sAsg 1 (fDnew false)) (sSeq (sForE 0) (sSeq (sRet (fVar 1)) sNil))) sNil)
  (sSeq (sRet (fVar 0)) sNil)))
def ce_33_0 (rn : Nat → List VI.D → Store → Res) : Dl → Store → Res := (fCall (consR (fVar 0) (consR (fVar 5) fNil)) (rn 33))
def fb_33_0 (rn : Nat → List VI.D → Store → Res) : Dl → Store → SRes := (sSeq (sSet 3 (fVar 4) (fCall (consR (fVar 0) (consR (fin2 (fVar 1) (fVar 4) gIx) fNil)) (rn 33))) sNil)
def b_33 (rn : Nat → List VI.D → Store → Res) : Dl → Store → SRes := sSeq (sIf (fin1 (fVar 1) (fun S d => if 2 ≤ 1000 then gIsi1 [.list, .tuple] S d else none)) (sSeq (sAsg 2 (fCell (fLc (.one 5) fYes (ce_33_0 rn) (fItP false (fVar 1))))) (sSeq (sRet (fIf (fin2 (fCall (consR (fVar 0) (consR (fCon (.int 2)) fNil)) (rn 28)) (fCon (.int 0)) (gEq false)) (fVar 2) (finN (consR (fVar 2) fNil) gTuple))) sNil)) sNil)
  (sSeq (sIf (fin1 (fVar 1) (gIsi1 [.dict])) (sSeq (sAsg 3 (fDnew false)) (sSeq (sFor (.one 4) (fItP false (fCall (consR (fVar 0) (consR (fCell (finN (consR (fVar 1) fNil) gList)) fNil)) (rn 30))) (fb_33_0 rn)) (sSeq (sRet (fVar 3)) sNil))) sNil)
  (sSeq (sRet (fVar 1)) sNil))
def fb_34_0 (rn : Nat → List VI.D → Store → Res) : Dl → Store → SRes := (sSeq (sExpr (fCall (consR (fVar 1) fNil) (rn 34))) sNil)
def fb_34_1 (rn : Nat → List VI.D → Store → Res) : Dl → Store → SRes := (sSeq (sExpr (fCall (consR (fin2 (fVar 0) (fVar 2) gIx) fNil) (rn 34))) sNil)
def b_34 (rn : Nat → List VI.D → Store → Res) : Dl → Store → SRes := sSeq (sIf (fin1 (fVar 0) (fun S d => if 2 ≤ 1000 then gIsi1 [.list, .tuple] S d else none)) (sSeq (sFor (.one 1) (fItP false (finN (consR (fVar 0) fNil) gList)) (fb_34_0 rn)) sNil) sNil)
  (sSeq (sIf (fin1 (fVar 0) (gIsi1 [.list])) (sSeq (sExpr (fCm (fVar 0) (consR (fCon (.str "spoilt")) fNil) mApp)) sNil) sNil)
  (sSeq (sIf (fin1 (fVar 0) (gIsi1 [.dict])) (sSeq (sFor (.one 2) (fItP false (finN (consR (fVar 0) fNil) gList)) (fb_34_1 rn)) (sSeq (sCset (fVar 0) (fCon (.str "spoilt")) (fin1 (fCon (.int 1)) gNeg)) sNil)) sNil)
  (sSeq (sRet (fVar 0)) sNil)))
def fb_35_0 (rn : Nat → List VI.D → Store → Res) : Dl → Store → SRes := (sSeq (sIf (fin2 (fVar 1) (fVar 0) (gIn true)) (sSeq (sRet (fVar 1)) sNil) sNil) (sSeq (sAsg 1 (fin2 (fin2 (fin2 (fCon (.str "qxyz")) (fin2 (fVar 2) (fCon (.int 4)) gMod) gIx) (fin2 (fCon (.str "abcdefghijklmnopqrstuvwxyz")) (fin2 (fin2 (fVar 2) (fCon (.int 4)) gFdv) (fCon (.int 26)) gMod) gIx) gAdd) (fin2 (fCon (.str "abcdefghij")) (fin2 (fVar 2) (fCon (.int 104)) gFdv) gIx) gAdd)) sNil))
def b_35 (rn : Nat → List VI.D → Store → Res) : Dl → Store → SRes := sSeq (sFor (.one 2) (fRng (consR (fCon (.int 600)) fNil)) (fb_35_0 rn))
  (sSeq (sRet (fVar 1)) sNil)
def fb_36_0 (rn : Nat → List VI.D → Store → Res) : Dl → Store → SRes := (sSeq (sAsg 5 (fin2 (fVar 5) (fIf (fVar 2) (fin2 (fCon (.str "abc")) (fCall (consR (fVar 0) (consR (fCon (.int 3)) fNil)) (rn 28)) gIx) (fin2 (fCon (.str "abcdefghijklmnopqrstuvwxyz")) (fCall (consR (fVar 0) (consR (fCon (.int 26)) fNil)) (rn 28)) gIx)) gAdd)) sNil)
def fb_36_1 (rn : Nat → List VI.D → Store → Res) : Dl → Store → SRes := (sSeq (sAsg 5 (fIf (fVar 2) (fin2 (fCon (.str "ab")) (fCall (consR (fVar 0) (consR (fCon (.int 2)) fNil)) (rn 28)) gIx) (fin2 (fCon (.str "abcdefghijklmnopqrstuvwxyz")) (fCall (consR (fVar 0) (consR (fCon (.int 26)) fNil)) (rn 28)) gIx))) (sSeq (sFor (.one 6) (fRng (consR (fCall (consR (fVar 0) (consR (fIf (fVar 2) (fCon (.int 3)) (fCon (.int 8))) fNil)) (rn 28)) fNil)) (fb_36_0 rn)) (sSeq (sExpr (fCm (fVar 3) (consR (fCall (consR (fVar 3) (consR (fVar 5) fNil)) (rn 35)) fNil) mApp)) sNil)))
def b_36 (rn : Nat → List VI.D → Store → Res) : Dl → Store → SRes := sSeq (sPar 2 3 (fin2 (fCall (consR (fVar 0) (consR (fCon (.int 2)) fNil)) (rn 28)) (fCon (.int 0)) (gEq false)) (fCell (fLst fNil)))
  (sSeq (sFor (.one 4) (fRng (consR (fVar 1) fNil)) (fb_36_1 rn))
  (sSeq (sRet (fVar 3)) sNil))
def b_37 (rn : Nat → List VI.D → Store → Res) : Dl → Store → SRes := sSeq (sRet (fCall (consR (fVar 0) (consR (fin2 (fCon (.int 1)) (fCall (consR (fVar 0) (consR (fVar 1) fNil)) (rn 28)) gAdd) fNil)) (rn 36))) sNil
def b_38 (rn : Nat → List VI.D → Store → Res) : Dl → Store → SRes := sSeq (sIf (fin2 (fVar 2) (fCon (.int 1)) (gEq false)) (sSeq (sRet (fTup (consR (fCall (consR (fVar 0) (consR (fLst (consR (fCon (.str "up")) (consR (fCon (.str "down")) fNil))) fNil)) (rn 29)) (consR (fCall (consR (fVar 0) (consR (fVar 1) fNil)) (rn 29)) fNil)))) sNil) sNil)
  (sSeq (sAsg 3 (fin2 (fCon (.int 1)) (fCall (consR (fVar 0) (consR (fin2 (fVar 2) (fCon (.int 1)) gSub) fNil)) (rn 28)) gAdd))
  (sSeq (sRet (fTup (consR (fCall (consR (fVar 0) (consR (fLst (consR (fCon (.str "both")) (consR (fCon (.str "else")) fNil))) fNil)) (rn 29)) (consR (fCall (consR (fVar 0) (consR (fVar 1) (consR (fVar 3) fNil))) (rn 38)) (consR (fCall (consR (fVar 0) (consR (fVar 1) (consR (fin2 (fVar 2) (fVar 3) gSub) fNil))) (rn 38)) fNil))))) sNil))
def b_39 (rn : Nat → List VI.D → Store → Res) : Dl → Store → SRes := sSeq (sRet (fin2 (fin2 (fVar 0) (fCon (.int 0)) gIx) (fTup (consR (fCon (.str "up")) (consR (fCon (.str "down")) fNil))) (gIn false))) sNil
def b_40 (rn : Nat → List VI.D → Store → Res) : Dl → Store → SRes := sSeq (sAsg 1 (finN (consR (fLst (consR (fTup (consR (fCon (.str "up")) (consR (fCon (.str "down")) fNil))) (consR (fTup (consR (fCon (.str "down")) (consR (fCon (.str "up")) fNil))) (consR (fTup (consR (fCon (.str "both")) (consR (fCon (.str "else")) fNil))) (consR (fTup (consR (fCon (.str "else")) (consR (fCon (.str "both")) fNil))) fNil))))) fNil) gDictP))
  (sSeq (sIf (fCall (consR (fVar 0) fNil) (rn 39)) (sSeq (sRet (fTup (consR (fin2 (fVar 1) (fin2 (fVar 0) (fCon (.int 0)) gIx) gIx) (consR (fin2 (fVar 0) (fCon (.int 1)) gIx) fNil)))) sNil) sNil)
  (sSeq (sRet (fTup (consR (fin2 (fVar 1) (fin2 (fVar 0) (fCon (.int 0)) gIx) gIx) (consR (fCall (consR (fin2 (fVar 0) (fCon (.int 1)) gIx) fNil) (rn 40)) (consR (fCall (consR (fin2 (fVar 0) (fCon (.int 2)) gIx) fNil) (rn 40)) fNil))))) sNil))
def b_41 (rn : Nat → List VI.D → Store → Res) : Dl → Store → SRes := sSeq (sIf (fOr (fin1 (fin1 (fVar 0) (fun S d => if 2 ≤ 1000 then gIsi1 [.list, .tuple] S d else none)) gNot) (fOr (fin2 (finN (consR (fVar 0) fNil) gLen) (fTup (consR (fCon (.int 2)) (consR (fCon (.int 3)) fNil))) (gIn true)) (fin1 (fin1 (fin2 (fVar 0) (fCon (.int 0)) gIx) (gIsi1 [.str])) gNot))) (sSeq (sRet (fCon (.bl false))) sNil) sNil)
  (sSeq (sIf (fin2 (finN (consR (fVar 0) fNil) gLen) (fCon (.int 2)) (gEq false)) (sSeq (sRet (fAnd (fin2 (fin2 (fVar 0) (fCon (.int 0)) gIx) (fTup (consR (fCon (.str "up")) (consR (fCon (.str "down")) fNil))) (gIn false)) (fCall (consR (fin2 (fVar 0) (fCon (.int 1)) gIx) fNil) (rn 42)))) sNil) sNil)
  (sSeq (sRet (fAnd (fin2 (fin2 (fVar 0) (fCon (.int 0)) gIx) (fTup (consR (fCon (.str "both")) (consR (fCon (.str "else")) fNil))) (gIn false)) (fAnd (fCall (consR (fin2 (fVar 0) (fCon (.int 1)) gIx) fNil) (rn 41)) (fCall (consR (fin2 (fVar 0) (fCon (.int 2)) gIx) fNil) (rn 41))))) sNil))
def ce_42_0 (rn : Nat → List VI.D → Store → Res) : Dl → Store → Res := (fin2 (fVar 1) (fCon (.str "abcdefghijklmnopqrstuvwxyz")) (gIn false))
def b_42 (rn : Nat → List VI.D → Store → Res) : Dl → Store → SRes := sSeq (sRet (fAnd (fin1 (fVar 0) (gIsi1 [.str])) (fAnd (fChain (fCon (.int 1)) (finN (consR (fVar 0) fNil) gLen) (fCon (.int 8)) gLe gLe) (finN (consR (fLc (.one 1) fYes (ce_42_0 rn) (fItP true (fVar 0))) fNil) (gBools fun bs => .bl (bs.all id)))))) sNil
def b_43 (rn : Nat → List VI.D → Store → Res) : Dl → Store → SRes := sSeq (sRet (fIf (fCall (consR (fVar 0) fNil) (rn 39)) (fLst (consR (fVar 0) fNil)) (fin2 (fCall (consR (fin2 (fVar 0) (fCon (.int 1)) gIx) fNil) (rn 43)) (fCall (consR (fin2 (fVar 0) (fCon (.int 2)) gIx) fNil) (rn 43)) gCat))) sNil
def ce_44_0 (rn : Nat → List VI.D → Store → Res) : Dl → Store → Res := (fin2 (fLst (consR (fCon (.int 0)) fNil)) (fVar 1) gCat)
def ce_44_1 (rn : Nat → List VI.D → Store → Res) : Dl → Store → Res := (fin2 (fLst (consR (fCon (.int 1)) fNil)) (fVar 1) gCat)
def b_44 (rn : Nat → List VI.D → Store → Res) : Dl → Store → SRes := sSeq (sIf (fCall (consR (fVar 0) fNil) (rn 39)) (sSeq (sRet (fLst (consR (fLst fNil) fNil))) sNil) sNil)
  (sSeq (sRet (fin2 (fin2 (fLst (consR (fLst fNil) fNil)) (fLc (.one 1) fYes (ce_44_0 rn) (fItP true (fCall (consR (fin2 (fVar 0) (fCon (.int 1)) gIx) fNil) (rn 44)))) gCat) (fLc (.one 1) fYes (ce_44_1 rn) (fItP true (fCall (consR (fin2 (fVar 0) (fCon (.int 2)) gIx) fNil) (rn 44)))) gCat)) sNil)
def fb_45_0 (rn : Nat → List VI.D → Store → Res) : Dl → Store → SRes := (sSeq (sAsg 0 (fin2 (fVar 0) (fin2 (fCon (.int 1)) (fVar 2) gAdd) gIx)) sNil)
def b_45 (rn : Nat → List VI.D → Store → Res) : Dl → Store → SRes := sSeq (sFor (.one 2) (fItP true (fVar 1)) (fb_45_0 rn))
  (sSeq (sRet (fVar 0)) sNil)
def b_46 (rn : Nat → List VI.D → Store → Res) : Dl → Store → SRes := sSeq (sIf (fin2 (fVar 1) (fLst fNil) (gEq false)) (sSeq (sRet (fVar 2)) sNil) sNil)
  (sSeq (sIf (fin2 (fin2 (fVar 1) (fCon (.int 0)) gIx) (fCon (.int 0)) (gEq false)) (sSeq (sRet (fTup (consR (fin2 (fVar 0) (fCon (.int 0)) gIx) (consR (fCall (consR (fin2 (fVar 0) (fCon (.int 1)) gIx) (consR (fSl (fVar 1) (some (fCon (.int 1))) none gSlL) (consR (fVar 2) fNil))) (rn 46)) (consR (fin2 (fVar 0) (fCon (.int 2)) gIx) fNil))))) sNil) sNil)
  (sSeq (sRet (fTup (consR (fin2 (fVar 0) (fCon (.int 0)) gIx) (consR (fin2 (fVar 0) (fCon (.int 1)) gIx) (consR (fCall (consR (fin2 (fVar 0) (fCon (.int 2)) gIx) (consR (fSl (fVar 1) (some (fCon (.int 1))) none gSlL) (consR (fVar 2) fNil))) (rn 46)) fNil))))) sNil))
def b_47 (rn : Nat → List VI.D → Store → Res) : Dl → Store → SRes := sSeq sStuck
  (sSeq sStuck sNil)
def b_48 (rn : Nat → List VI.D → Store → Res) : Dl → Store → SRes := sSeq (sRet (fIf (fCall (consR (fVar 0) fNil) (rn 39)) (fCon (.int 0)) (fin2 (fCon (.int 1)) (finN (consR (fLst (consR (fCall (consR (fin2 (fVar 0) (fCon (.int 1)) gIx) fNil) (rn 48)) (consR (fCall (consR (fin2 (fVar 0) (fCon (.int 2)) gIx) fNil) (rn 48)) fNil))) fNil) (gInts gMaxL)) gAdd))) sNil
def b_49 (rn : Nat → List VI.D → Store → Res) : Dl → Store → SRes := sSeq (sIf (fAnd (fin2 (finN (consR (fVar 1) fNil) gLen) (fCon (.int 3)) (gEq false)) (fin2 (fCall (consR (fVar 0) (consR (fCon (.int 2)) fNil)) (rn 28)) (fCon (.int 0)) (gEq false))) (sSeq (sRet (fIf (fin2 (fCall (consR (fVar 0) (consR (fCon (.int 2)) fNil)) (rn 28)) (fCon (.int 0)) (gEq false)) (fTup (consR (fin2 (fVar 1) (fCon (.int 0)) gIx) (consR (fCall (consR (fVar 0) (consR (fin2 (fVar 1) (fCon (.int 1)) gIx) fNil)) (rn 49)) (consR (fin2 (fVar 1) (fCon (.int 2)) gIx) fNil)))) (fTup (consR (fin2 (fVar 1) (fCon (.int 0)) gIx) (consR (fin2 (fVar 1) (fCon (.int 1)) gIx) (consR (fCall (consR (fVar 0) (consR (fin2 (fVar 1) (fCon (.int 2)) gIx) fNil)) (rn 49)) fNil)))))) sNil) sNil)
  (sSeq (sAsg 2 (fLst (consR (fCon .non) (consR (fCon (.int 5)) (consR (fTup fNil) (consR (fCon (.str "up")) (consR (fTup (consR (fCon (.str "up")) fNil)) (consR (fTup (consR (fCon (.str "up")) (consR (fCon (.str "a")) (consR (fCon (.str "b")) fNil)))) (consR (fTup (consR (fCon (.str "Up")) (consR (fCon (.str "a")) fNil))) (consR (fTup (consR (fCon (.str "up")) (consR (fCon (.str "A")) fNil))) (consR (fTup (consR (fCon (.str "up")) (consR (fCon (.str "")) fNil))) (consR (fTup (consR (fCon (.str "up")) (consR (fCon (.str "abcdefghi")) fNil))) (consR (fTup (consR (fCon (.str "up")) (consR (fCon (.int 5)) fNil))) (consR (fTup (consR (fCon (.str "both")) (consR (fVar 1) fNil))) (consR (fTup (consR (fCon (.str "both")) (consR (fVar 1) (consR (fCon .non) fNil)))) fNil)))))))))))))))
  (sSeq (sM 2 (consR (fLst (consR (fTup (consR (fCon (.str "both")) (consR (fVar 1) (consR (fVar 1) (consR (fVar 1) fNil))))) (consR (fTup (consR (fCon (.str "Both")) (consR (fVar 1) (consR (fVar 1) fNil)))) (consR (fTup (consR (fCon .non) (consR (fVar 1) (consR (fVar 1) fNil)))) (consR (fTup (consR (fVar 1) fNil)) (consR (fDnew false) (consR (fin2 (fVar 1) (fCon (.int 0)) gIx) (consR (fTup (consR (fCon (.str "up")) (consR (fCon (.str "a1")) fNil))) (consR (fTup (consR (fCon (.str "else")) (consR (fCon (.str "up")) (consR (fCon (.str "a")) fNil)))) fNil))))))))) fNil) mExt fun _ δ S => .nx δ S)
  (sSeq (sRet (fCall (consR (fVar 0) (consR (fVar 2) fNil)) (rn 29))) sNil)))
def fb_50_0 (rn : Nat → List VI.D → Store → Res) : Dl → Store → SRes := (sSeq (sIf (fin1 (fCall (consR (fTold toldC (fCall (consR (fVar 1) (consR (fVar 9) fNil)) (rn 24))) (consR (fTup (consR (fCon (.str "bad")) (consR (fCon (.str "place")) (consR (fVar 9) fNil)))) fNil)) (rn 31)) gNot) (sSeq (sRet (fCon (.bl false))) sNil) sNil) (sSeq (sIf (fin1 (fCall (consR (fTold toldC (fCall (consR (fVar 1) (consR (fVar 9) (consR (fCon .non) fNil))) (rn 26))) (consR (fTup (consR (fCon (.str "bad")) (consR (fCon (.str "place")) (consR (fVar 9) fNil)))) fNil)) (rn 31)) gNot) (sSeq (sRet (fCon (.bl false))) sNil) sNil) sNil))
def fb_50_1 (rn : Nat → List VI.D → Store → Res) : Dl → Store → SRes := (sSeq (sIf (fin1 (fCall (consR (fTold toldC (fCall (consR (fVar 1) (consR (fVar 4) (consR (fVar 9) fNil))) (rn 26))) (consR (fTup (consR (fCon (.str "bad")) (consR (fCon (.str "part")) (consR (fVar 9) fNil)))) fNil)) (rn 31)) gNot) (sSeq (sRet (fCon (.bl false))) sNil) sNil) sNil)
def fb_50_2 (rn : Nat → List VI.D → Store → Res) : Dl → Store → SRes := (sSeq (sTgt (.tup [4, 5]) (fTup (consR (fCall (consR (fVar 0) (consR (fVar 2) fNil)) (rn 29)) (consR (fCall (consR (fVar 0) (consR (fLst (consR (fCon (.str "a")) (consR (fCon (.str "b")) fNil))) (consR (fin2 (fCon (.int 1)) (fCall (consR (fVar 0) (consR (fCon (.int 3)) fNil)) (rn 28)) gAdd) fNil))) (rn 38)) fNil)))) (sSeq (sPar 6 7 (fCall (consR (fVar 1) (consR (fVar 4) fNil)) (rn 45)) (fCall (consR (fVar 1) (consR (fVar 4) (consR (fVar 5) fNil))) (rn 46))) (sSeq (sAsg 8 (fLst (consR (fCall (consR (fCall (consR (fVar 0) (consR (fVar 1) fNil)) (rn 33)) (consR (fCall (consR (fVar 0) (consR (fVar 4) fNil)) (rn 33)) fNil)) (rn 24)) (consR (fCall (consR (fCall (consR (fVar 0) (consR (fVar 1) fNil)) (rn 33)) (consR (fCall (consR (fVar 0) (consR (fVar 4) fNil)) (rn 33)) (consR (fCall (consR (fVar 0) (consR (fVar 5) fNil)) (rn 33)) fNil))) (rn 26)) fNil)))) (sSeq (sIf (fin1 (fCall (consR (fVar 8) (consR (fLst (consR (fVar 6) (consR (fVar 7) fNil))) fNil)) (rn 31)) gNot) (sSeq (sRet (fCon (.bl false))) sNil) sNil) (sSeq (sIf (fin1 (fCall (consR (fLst (consR (fCall (consR (fVar 4) (consR (fVar 1) fNil)) fun ds S => rn 24 ds.reverse S) (consR (fCall (consR (fVar 5) (consR (fVar 4) (consR (fVar 1) fNil))) fun ds S => rn 26 ds.reverse S) fNil))) (consR (fLst (consR (fVar 6) (consR (fVar 7) fNil))) fNil)) (rn 31)) gNot) (sSeq (sRet (fCon (.bl false))) sNil) sNil) (sSeq (sFor (.one 9) (fItP false (fTup (consR (fCon .non) (consR (fCon (.int 5)) (consR (fLst (consR (fCon (.int 2)) fNil)) (consR (fLst (consR (fin1 (fCon (.int 1)) gNeg) fNil)) (consR (fLst (consR (fCon (.bl true)) fNil)) (consR (fLst (consR (fCon (.str "0")) fNil)) (consR (fCon (.str "0")) (consR (fin2 (fVar 4) (fin2 (fLst (consR (fCon (.int 0)) fNil)) (fCon (.int 9)) gRep) gCat) (consR (fDnew false) fNil))))))))))) (fb_50_0 rn)) (sSeq (sFor (.one 9) (fItP false (fTup (consR (fCon .non) (consR (fCon (.int 5)) (consR (fTup fNil) (consR (fTup (consR (fCon (.str "up")) fNil)) (consR (fTup (consR (fCon (.str "Up")) (consR (fCon (.str "a")) fNil))) (consR (fLst (consR (fVar 5) fNil)) fNil)))))))) (fb_50_1 rn)) sNil)))))))
def b_50 (rn : Nat → List VI.D → Store → Res) : Dl → Store → SRes := sSeq (sAsg 2 (fCall (consR (fVar 1) fNil) (rn 44)))
  (sSeq (sFor (.one 3) (fRng (consR (fCon (.int 4)) fNil)) (fb_50_2 rn))
  (sSeq (sRet (fCon (.bl true))) sNil))
def ce_51_0 (rn : Nat → List VI.D → Store → Res) : Dl → Store → Res := (fin2 (fVar 15) (fCon (.int 1)) gIx)
def ce_51_1 (rn : Nat → List VI.D → Store → Res) : Dl → Store → Res := (fin2 (fin2 (fVar 6) (fVar 11) gIx) (fCon (.int 1)) gIx)
def cc_51_0 (rn : Nat → List VI.D → Store → Res) : Dl → Store → Res := (fin2 (fin2 (fin2 (fVar 6) (fVar 11) gIx) (fCon (.int 1)) gIx) (fLc (.one 15) fYes (ce_51_0 rn) (fItP false (fSl (fVar 6) none (some (fVar 11)) gSlL))) (gIn true))
def fb_51_0 (rn : Nat → List VI.D → Store → Res) : Dl → Store → SRes := (sSeq (sIf (fAnd (fin1 (fVar 13) gNot) (fin1 (fCall (consR (fTold toldC (fCallV 14 [12, 15, 17, 18, 14, 20] (consR (fVar 12) fNil) rn)) (consR (fTup (consR (fCon (.str "bad")) (consR (fCon (.str "formula")) (consR (fVar 12) fNil)))) fNil)) (rn 31)) gNot)) (sSeq (sRet (fCon (.bl false))) sNil) sNil) sNil)
def fb_51_1 (rn : Nat → List VI.D → Store → Res) : Dl → Store → SRes := (sSeq (sAsg 12 (fCall (consR (fVar 1) (consR (fVar 4) fNil)) (rn 49))) (sSeq (sAsg 13 (fCall (consR (fVar 12) fNil) (rn 41))) (sSeq (sIf (fin1 (fCall (consR (fCall (consR (fCall (consR (fVar 12) fNil) (rn 32)) fNil) (rn 8)) (consR (fVar 13) fNil)) (rn 31)) gNot) (sSeq (sRet (fCon (.bl false))) sNil) sNil) (sSeq (sFor (.one 14) (fItP false (fTup (consR (fCon (.fn 12)) (consR (fCon (.fn 15)) (consR (fCon (.fn 17)) (consR (fCon (.fn 18)) (consR (fCon (.fn 14)) (consR (fCon (.fn 20)) fNil)))))))) (fb_51_0 rn)) (sSeq (sIf (fAnd (fin1 (fVar 13) gNot) (fin1 (fCall (consR (fTold toldC (fCall (consR (fVar 12) (consR (fCon .non) fNil)) (rn 24))) (consR (fTup (consR (fCon (.str "bad")) (consR (fCon (.str "formula")) (consR (fVar 12) fNil)))) fNil)) (rn 31)) gNot)) (sSeq (sRet (fCon (.bl false))) sNil) sNil) (sSeq (sIf (fAnd (fin1 (fVar 13) gNot) (fin1 (fCall (consR (fTold toldC (fCall (consR (fVar 12) (consR (fCon .non) (consR (fCon .non) fNil))) (rn 26))) (consR (fTup (consR (fCon (.str "bad")) (consR (fCon (.str "formula")) (consR (fVar 12) fNil)))) fNil)) (rn 31)) gNot)) (sSeq (sRet (fCon (.bl false))) sNil) sNil) sNil))))))
def fb_51_2 (rn : Nat → List VI.D → Store → Res) : Dl → Store → SRes := (sSeq (sAsg 3 (fCall (consR (fVar 1) (consR (fCon (.int 3)) fNil)) (rn 37))) (sSeq (sAsg 4 (fCall (consR (fVar 1) (consR (fVar 3) (consR (fin2 (fCon (.int 1)) (fCall (consR (fVar 1) (consR (fCon (.int 8)) fNil)) (rn 28)) gAdd) fNil))) (rn 38))) (sSeq (sTgt (.tup [5, 6]) (fTup (consR (fCall (consR (fVar 1) (consR (fVar 4) fNil)) (rn 33)) (consR (fCall (consR (fVar 4) fNil) (rn 43)) fNil)))) (sSeq (sAsg 7 (fCall (consR (fVar 5) fNil) (rn 32))) (sSeq (sAsg 8 (fLst (consR (fCall (consR (fVar 5) fNil) (rn 8)) (consR (fCall (consR (fVar 5) fNil) (rn 12)) (consR (fCall (consR (fVar 5) fNil) (rn 15)) (consR (fCall (consR (fVar 5) fNil) (rn 17)) (consR (fCall (consR (fVar 5) fNil) (rn 18)) (consR (fCall (consR (fVar 5) fNil) (rn 14)) (consR (fCall (consR (fVar 5) fNil) (rn 20)) fNil))))))))) (sSeq (sAsg 9 (fLc (.one 11) (cc_51_0 rn) (ce_51_1 rn) (fRng (consR (finN (consR (fVar 6) fNil) gLen) fNil)))) (sSeq (sAsg 10 (fLst (consR (fCon (.bl true)) (consR (fCall (consR (fVar 4) fNil) (rn 40)) (consR (finN (consR (fVar 6) fNil) gLen) (consR (fCall (consR (fVar 4) fNil) (rn 48)) (consR (fVar 9) (consR (fVar 6) (consR (fCall (consR (fVar 4) fNil) (rn 44)) fNil))))))))) (sSeq (sIf (fOr (fin1 (fCall (consR (fVar 8) (consR (fVar 10) fNil)) (rn 31)) gNot) (fOr (fin1 (fCall (consR (fVar 5) (consR (fVar 7) fNil)) (rn 31)) gNot) (fin1 (fCall (consR (fCall (consR (fCall (consR (fVar 4) fNil) (rn 12)) fNil) (rn 12)) (consR (fVar 4) fNil)) (rn 31)) gNot))) (sSeq (sRet (fCon (.bl false))) sNil) sNil) (sSeq (sExpr (fCall (consR (fCell (fSl (fVar 8) (some (fCon (.int 4))) none gSlL)) fNil) (rn 34))) (sSeq (sAsg 8 (fLst (consR (fCall (consR (fVar 4) fNil) fun ds S => rn 8 ds.reverse S) (consR (fCall (consR (fVar 4) fNil) fun ds S => rn 12 ds.reverse S) (consR (fCall (consR (fVar 4) fNil) fun ds S => rn 15 ds.reverse S) (consR (fCall (consR (fVar 4) fNil) fun ds S => rn 17 ds.reverse S) (consR (fCall (consR (fVar 4) fNil) fun ds S => rn 18 ds.reverse S) (consR (fCall (consR (fVar 4) fNil) fun ds S => rn 14 ds.reverse S) fNil)))))))) (sSeq (sIf (fOr (fin1 (fCall (consR (fin2 (fVar 8) (fLst (consR (fCall (consR (fVar 4) fNil) fun ds S => rn 20 ds.reverse S) fNil)) gCat) (consR (fVar 10) fNil)) (rn 31)) gNot) (fin1 (fCall (consR (fVar 1) (consR (fVar 4) fNil)) (rn 50)) gNot)) (sSeq (sRet (fCon (.bl false))) sNil) sNil) (sSeq (sFor (.one 11) (fRng (consR (fCon (.int 5)) fNil)) (fb_51_1 rn)) sNil))))))))))))
def b_51 (rn : Nat → List VI.D → Store → Res) : Dl → Store → SRes := sSeq (sAsg 1 (fCall (consR (fVar 0) fNil) (rn 27)))
  (sSeq (sFor (.one 2) (fRng (consR (fCon (.int 4)) fNil)) (fb_51_2 rn))
  (sSeq (sRet (fCon (.bl true))) sNil))
def body (rn : Nat → List VI.D → Store → Res) : Nat → Dl → Store → SRes
  | 0 => b_0 rn
  | 1 => b_1 rn
  | 2 => b_2 rn
  | 3 => b_3 rn
  | 4 => b_4 rn
  | 5 => b_5 rn
  | 6 => b_6 rn
  | 7 => b_7 rn
  | 8 => b_8 rn
  | 9 => b_9 rn
  | 10 => b_10 rn
  | 11 => b_11 rn
  | 12 => b_12 rn
  | 13 => b_13 rn
  | 14 => b_14 rn
  | 15 => b_15 rn
  | 16 => b_16 rn
  | 17 => b_17 rn
  | 18 => b_18 rn
  | 19 => b_19 rn
  | 20 => b_20 rn
  | 21 => b_21 rn
  | 22 => b_22 rn
  | 23 => b_23 rn
  | 24 => b_24 rn
  | 25 => b_25 rn
  | 26 => b_26 rn
  | 27 => b_27 rn
  | 28 => b_28 rn
  | 29 => b_29 rn
  | 30 => b_30 rn
  | 31 => b_31 rn
  | 32 => b_32 rn
  | 33 => b_33 rn
  | 34 => b_34 rn
  | 35 => b_35 rn
  | 36 => b_36 rn
  | 37 => b_37 rn
  | 38 => b_38 rn
  | 39 => b_39 rn
  | 40 => b_40 rn
  | 41 => b_41 rn
  | 42 => b_42 rn
  | 43 => b_43 rn
  | 44 => b_44 rn
  | 45 => b_45 rn
  | 46 => b_46 rn
  | 47 => b_47 rn
  | 48 => b_48 rn
  | 49 => b_49 rn
  | 50 => b_50 rn
  | 51 => b_51 rn
  | _ => fun _ _ => .st
def qsL : List Nat := []
abbrev run : Nat → Nat → List VI.D → Store → Res := runT T body

theorem m_IndexError : ("IndexError" : Str) ∈ freeL := by decide +kernel
theorem m_KeyError : ("KeyError" : Str) ∈ freeL := by decide +kernel
theorem m_TypeError : ("TypeError" : Str) ∈ freeL := by decide +kernel
theorem m_ValueError : ("ValueError" : Str) ∈ freeL := by decide +kernel
theorem m_abs : ("abs" : Str) ∈ freeL := by decide +kernel
theorem m_all : ("all" : Str) ∈ freeL := by decide +kernel
theorem m_any : ("any" : Str) ∈ freeL := by decide +kernel
theorem m_bool : ("bool" : Str) ∈ freeL := by decide +kernel
theorem m_dict : ("dict" : Str) ∈ freeL := by decide +kernel
theorem m_enumerate : ("enumerate" : Str) ∈ freeL := by decide +kernel
theorem m_int : ("int" : Str) ∈ freeL := by decide +kernel
theorem m_isinstance : ("isinstance" : Str) ∈ freeL := by decide +kernel
theorem m_len : ("len" : Str) ∈ freeL := by decide +kernel
theorem m_list : ("list" : Str) ∈ freeL := by decide +kernel
theorem m_max : ("max" : Str) ∈ freeL := by decide +kernel
theorem m_min : ("min" : Str) ∈ freeL := by decide +kernel
theorem m_range : ("range" : Str) ∈ freeL := by decide +kernel
theorem m_reversed : ("reversed" : Str) ∈ freeL := by decide +kernel
theorem m_sorted : ("sorted" : Str) ∈ freeL := by decide +kernel
theorem m_str : ("str" : Str) ∈ freeL := by decide +kernel
theorem m_sum : ("sum" : Str) ∈ freeL := by decide +kernel
theorem m_tuple : ("tuple" : Str) ∈ freeL := by decide +kernel
theorem m_zip : ("zip" : Str) ∈ freeL := by decide +kernel
abbrev CS (K : PySem.W.Frag) (mg : Str → Option Value) : Prop := Cs T C nd nc freeL K mg
def clsV (K : PySem.W.Frag) : Nat → Option V := fun k => if k < nc then some (.ref (He.ga K (C.nm k))) else (bxL[k - nc]?).map V.ty
theorem bx_ok : ∀ (i : Nat) (t : String), bxL[i]? = some t → PySem.W.kitMeta t = true ∧ He.veBase.contains (.type t) = decide (nc + i = 7) := by
  intro i t h
  rcases i with _ | i
  · cases h; exact ⟨by decide +kernel, by decide +kernel⟩
  rcases i with _ | i
  · cases h; exact ⟨by decide +kernel, by decide +kernel⟩
  rcases i with _ | i
  · cases h; exact ⟨by decide +kernel, by decide +kernel⟩
  rcases i with _ | i
  · cases h; exact ⟨by decide +kernel, by decide +kernel⟩
  cases h
theorem kitO {K : PySem.W.Frag} {mg : Str → Option Value} {gv : Gv} (c : CS K mg) (g : Gx C nc K gv) : KitOk K gv kit (clsV K) := c.kit g (by decide) (by decide) bx_ok
theorem tys {K : PySem.W.Frag} {mg : Str → Option Value} (c : CS K mg) : ∀ t : Ty, mg (Str.ofString t.name) = none := fun t => c.fr _ (by cases t <;> decide +kernel)
section
variable {P : Program} {w : World} {K : PySem.W.Frag} {mg : Str → Option Value} {base : Heap} {CX : CXT} {f : Addr} {fd : FuncData}
theorem okI_1 (F : C.D 1 K f fd) : FnOk P w K mg base CX 1 f fd [("self" : Str), ("formula" : Str)] (spIni K "formula") := okIni F ⟨rfl, rfl, rfl, by decide +kernel, rfl, by decide +kernel, by decide +kernel⟩ rfl rfl rfl rfl rfl rfl
theorem bi_1 (F : C.D 1 K f fd) : Binds K fd [("self" : Str), ("formula" : Str)] [] := FunD.bindsN F fun _ _ _ _ _ _ us hl => match us, hl with | [_, _], _ => rfl
theorem kb_1 (F : C.D 1 K f fd) : ∀ (s : Shared) (e : Addr) (u : Value), K.In s.heap → BindsTo s fd ⟨[.ref e], [(("formula" : Str), u)]⟩ ([("self" : Str), ("formula" : Str)].zip [.ref e, u]) := FunD.kb1 F fun _ _ _ _ _ _ _ _ => rfl
theorem okI_2 (F : C.D 2 K f fd) : FnOk P w K mg base CX 1 f fd [("self" : Str), ("part" : Str)] (spIni K "part") := okIni F ⟨rfl, rfl, rfl, by decide +kernel, rfl, by decide +kernel, by decide +kernel⟩ rfl rfl rfl rfl rfl rfl
theorem bi_2 (F : C.D 2 K f fd) : Binds K fd [("self" : Str), ("part" : Str)] [] := FunD.bindsN F fun _ _ _ _ _ _ us hl => match us, hl with | [_, _], _ => rfl
theorem kb_2 (F : C.D 2 K f fd) : ∀ (s : Shared) (e : Addr) (u : Value), K.In s.heap → BindsTo s fd ⟨[.ref e], [(("part" : Str), u)]⟩ ([("self" : Str), ("part" : Str)].zip [.ref e, u]) := FunD.kb1 F fun _ _ _ _ _ _ _ _ => rfl
theorem okI_3 (F : C.D 3 K f fd) : FnOk P w K mg base CX 1 f fd [("self" : Str), ("place" : Str)] (spIni K "place") := okIni F ⟨rfl, rfl, rfl, by decide +kernel, rfl, by decide +kernel, by decide +kernel⟩ rfl rfl rfl rfl rfl rfl
theorem bi_3 (F : C.D 3 K f fd) : Binds K fd [("self" : Str), ("place" : Str)] [] := FunD.bindsN F fun _ _ _ _ _ _ us hl => match us, hl with | [_, _], _ => rfl
theorem kb_3 (F : C.D 3 K f fd) : ∀ (s : Shared) (e : Addr) (u : Value), K.In s.heap → BindsTo s fd ⟨[.ref e], [(("place" : Str), u)]⟩ ([("self" : Str), ("place" : Str)].zip [.ref e, u]) := FunD.kb1 F fun _ _ _ _ _ _ _ _ => rfl
end
theorem nd_0 : (T.N 0).Nodup := by decide +kernel
theorem sc_0 : FnScope (T.N 0) (T.ps 0) (defScope (T.st 0)) := ⟨rfl, rfl, rfl, nd_0, rfl, by decide +kernel, by decide +kernel⟩
theorem bd_0 {K : PySem.W.Frag} {f : Addr} {fd : FuncData} (F : T.D 0 K f fd) : Binds K fd (T.ps 0) [] := FunD.bindsN F fun _ _ _ _ _ _ us hl => match us, hl with | [_], _ => rfl
theorem nd_1 : (T.N 1).Nodup := by decide +kernel
theorem sc_1 : FnScope (T.N 1) (T.ps 1) (defScope (T.st 1)) := ⟨rfl, rfl, rfl, nd_1, rfl, by decide +kernel, by decide +kernel⟩
theorem bd_1 {K : PySem.W.Frag} {f : Addr} {fd : FuncData} (F : T.D 1 K f fd) : Binds K fd (T.ps 1) [] := FunD.bindsN F fun _ _ _ _ _ _ us hl => match us, hl with | [_], _ => rfl
theorem nd_2 : (T.N 2).Nodup := by decide +kernel
theorem sc_2 : FnScope (T.N 2) (T.ps 2) (defScope (T.st 2)) := ⟨rfl, rfl, rfl, nd_2, rfl, by decide +kernel, by decide +kernel⟩
theorem bd_2 {K : PySem.W.Frag} {f : Addr} {fd : FuncData} (F : T.D 2 K f fd) : Binds K fd (T.ps 2) [] := FunD.bindsN F fun _ _ _ _ _ _ us hl => match us, hl with | [_], _ => rfl
theorem nd_3 : (T.N 3).Nodup := by decide +kernel
theorem sc_3 : FnScope (T.N 3) (T.ps 3) (defScope (T.st 3)) := ⟨rfl, rfl, rfl, nd_3, rfl, by decide +kernel, by decide +kernel⟩
theorem bd_3 {K : PySem.W.Frag} {f : Addr} {fd : FuncData} (F : T.D 3 K f fd) : Binds K fd (T.ps 3) [] := FunD.bindsN F fun _ _ _ _ _ _ us hl => match us, hl with | [_, _], _ => rfl
theorem nd_4 : (T.N 4).Nodup := by decide +kernel
theorem sc_4 : FnScope (T.N 4) (T.ps 4) (defScope (T.st 4)) := ⟨rfl, rfl, rfl, nd_4, rfl, by decide +kernel, by decide +kernel⟩
theorem bd_4 {K : PySem.W.Frag} {f : Addr} {fd : FuncData} (F : T.D 4 K f fd) : Binds K fd (T.ps 4) [] := FunD.bindsN F fun _ _ _ _ _ _ us hl => match us, hl with | [_], _ => rfl
theorem nd_5 : (T.N 5).Nodup := by decide +kernel
theorem sc_5 : FnScope (T.N 5) (T.ps 5) (defScope (T.st 5)) := ⟨rfl, rfl, rfl, nd_5, rfl, by decide +kernel, by decide +kernel⟩
theorem bd_5 {K : PySem.W.Frag} {f : Addr} {fd : FuncData} (F : T.D 5 K f fd) : Binds K fd (T.ps 5) [] := FunD.bindsN F fun _ _ _ _ _ _ us hl => match us, hl with | [_], _ => rfl
theorem nd_6 : (T.N 6).Nodup := by decide +kernel
theorem sc_6 : FnScope (T.N 6) (T.ps 6) (defScope (T.st 6)) := ⟨rfl, rfl, rfl, nd_6, rfl, by decide +kernel, by decide +kernel⟩
theorem bd_6 {K : PySem.W.Frag} {f : Addr} {fd : FuncData} (F : T.D 6 K f fd) : Binds K fd (T.ps 6) [] := FunD.bindsN F fun _ _ _ _ _ _ us hl => match us, hl with | [_], _ => rfl
theorem nd_7 : (T.N 7).Nodup := by decide +kernel
theorem sc_7 : FnScope (T.N 7) (T.ps 7) (defScope (T.st 7)) := ⟨rfl, rfl, rfl, nd_7, rfl, by decide +kernel, by decide +kernel⟩
theorem bd_7 {K : PySem.W.Frag} {f : Addr} {fd : FuncData} (F : T.D 7 K f fd) : Binds K fd (T.ps 7) [] := FunD.bindsN F fun _ _ _ _ _ _ us hl => match us, hl with | [_], _ => rfl
theorem nd_8 : (T.N 8).Nodup := by decide +kernel
theorem sc_8 : FnScope (T.N 8) (T.ps 8) (defScope (T.st 8)) := ⟨rfl, rfl, rfl, nd_8, rfl, by decide +kernel, by decide +kernel⟩
theorem bd_8 {K : PySem.W.Frag} {f : Addr} {fd : FuncData} (F : T.D 8 K f fd) : Binds K fd (T.ps 8) [] := FunD.bindsN F fun _ _ _ _ _ _ us hl => match us, hl with | [_], _ => rfl
theorem nd_9 : (T.N 9).Nodup := by decide +kernel
theorem sc_9 : FnScope (T.N 9) (T.ps 9) (defScope (T.st 9)) := ⟨rfl, rfl, rfl, nd_9, rfl, by decide +kernel, by decide +kernel⟩
theorem bd_9 {K : PySem.W.Frag} {f : Addr} {fd : FuncData} (F : T.D 9 K f fd) : Binds K fd (T.ps 9) [] := FunD.bindsN F fun _ _ _ _ _ _ us hl => match us, hl with | [_], _ => rfl
theorem nd_10 : (T.N 10).Nodup := by decide +kernel
theorem sc_10 : FnScope (T.N 10) (T.ps 10) (defScope (T.st 10)) := ⟨rfl, rfl, rfl, nd_10, rfl, by decide +kernel, by decide +kernel⟩
theorem bd_10 {K : PySem.W.Frag} {f : Addr} {fd : FuncData} (F : T.D 10 K f fd) : Binds K fd (T.ps 10) [] := FunD.bindsN F fun _ _ _ _ _ _ us hl => match us, hl with | [_], _ => rfl
theorem nd_11 : (T.N 11).Nodup := by decide +kernel
theorem sc_11 : FnScope (T.N 11) (T.ps 11) (defScope (T.st 11)) := ⟨rfl, rfl, rfl, nd_11, rfl, by decide +kernel, by decide +kernel⟩
theorem bd_11 {K : PySem.W.Frag} {f : Addr} {fd : FuncData} (F : T.D 11 K f fd) : Binds K fd (T.ps 11) [] := FunD.bindsN F fun _ _ _ _ _ _ us hl => match us, hl with | [_], _ => rfl
theorem nd_12 : (T.N 12).Nodup := by decide +kernel
theorem sc_12 : FnScope (T.N 12) (T.ps 12) (defScope (T.st 12)) := ⟨rfl, rfl, rfl, nd_12, rfl, by decide +kernel, by decide +kernel⟩
theorem bd_12 {K : PySem.W.Frag} {f : Addr} {fd : FuncData} (F : T.D 12 K f fd) : Binds K fd (T.ps 12) [] := FunD.bindsN F fun _ _ _ _ _ _ us hl => match us, hl with | [_], _ => rfl
theorem nd_13 : (T.N 13).Nodup := by decide +kernel
theorem sc_13 : FnScope (T.N 13) (T.ps 13) (defScope (T.st 13)) := ⟨rfl, rfl, rfl, nd_13, rfl, by decide +kernel, by decide +kernel⟩
theorem bd_13 {K : PySem.W.Frag} {f : Addr} {fd : FuncData} (F : T.D 13 K f fd) : Binds K fd (T.ps 13) [] := FunD.bindsN F fun _ _ _ _ _ _ us hl => match us, hl with | [_], _ => rfl
theorem nd_14 : (T.N 14).Nodup := by decide +kernel
theorem sc_14 : FnScope (T.N 14) (T.ps 14) (defScope (T.st 14)) := ⟨rfl, rfl, rfl, nd_14, rfl, by decide +kernel, by decide +kernel⟩
theorem bd_14 {K : PySem.W.Frag} {f : Addr} {fd : FuncData} (F : T.D 14 K f fd) : Binds K fd (T.ps 14) [] := FunD.bindsN F fun _ _ _ _ _ _ us hl => match us, hl with | [_], _ => rfl
theorem nd_15 : (T.N 15).Nodup := by decide +kernel
theorem sc_15 : FnScope (T.N 15) (T.ps 15) (defScope (T.st 15)) := ⟨rfl, rfl, rfl, nd_15, rfl, by decide +kernel, by decide +kernel⟩
theorem bd_15 {K : PySem.W.Frag} {f : Addr} {fd : FuncData} (F : T.D 15 K f fd) : Binds K fd (T.ps 15) [] := FunD.bindsN F fun _ _ _ _ _ _ us hl => match us, hl with | [_], _ => rfl
theorem nd_16 : (T.N 16).Nodup := by decide +kernel
theorem sc_16 : FnScope (T.N 16) (T.ps 16) (defScope (T.st 16)) := ⟨rfl, rfl, rfl, nd_16, rfl, by decide +kernel, by decide +kernel⟩
theorem bd_16 {K : PySem.W.Frag} {f : Addr} {fd : FuncData} (F : T.D 16 K f fd) : Binds K fd (T.ps 16) [] := FunD.bindsN F fun _ _ _ _ _ _ us hl => match us, hl with | [_], _ => rfl
theorem nd_17 : (T.N 17).Nodup := by decide +kernel
theorem sc_17 : FnScope (T.N 17) (T.ps 17) (defScope (T.st 17)) := ⟨rfl, rfl, rfl, nd_17, rfl, by decide +kernel, by decide +kernel⟩
theorem bd_17 {K : PySem.W.Frag} {f : Addr} {fd : FuncData} (F : T.D 17 K f fd) : Binds K fd (T.ps 17) [] := FunD.bindsN F fun _ _ _ _ _ _ us hl => match us, hl with | [_], _ => rfl
theorem nd_18 : (T.N 18).Nodup := by decide +kernel
theorem sc_18 : FnScope (T.N 18) (T.ps 18) (defScope (T.st 18)) := ⟨rfl, rfl, rfl, nd_18, rfl, by decide +kernel, by decide +kernel⟩
theorem bd_18 {K : PySem.W.Frag} {f : Addr} {fd : FuncData} (F : T.D 18 K f fd) : Binds K fd (T.ps 18) [] := FunD.bindsN F fun _ _ _ _ _ _ us hl => match us, hl with | [_], _ => rfl
theorem nd_19 : (T.N 19).Nodup := by decide +kernel
theorem sc_19 : FnScope (T.N 19) (T.ps 19) (defScope (T.st 19)) := ⟨rfl, rfl, rfl, nd_19, rfl, by decide +kernel, by decide +kernel⟩
theorem bd_19 {K : PySem.W.Frag} {f : Addr} {fd : FuncData} (F : T.D 19 K f fd) : Binds K fd (T.ps 19) [] := FunD.bindsN F fun _ _ _ _ _ _ us hl => match us, hl with | [_], _ => rfl
theorem nd_20 : (T.N 20).Nodup := by decide +kernel
theorem sc_20 : FnScope (T.N 20) (T.ps 20) (defScope (T.st 20)) := ⟨rfl, rfl, rfl, nd_20, rfl, by decide +kernel, by decide +kernel⟩
theorem bd_20 {K : PySem.W.Frag} {f : Addr} {fd : FuncData} (F : T.D 20 K f fd) : Binds K fd (T.ps 20) [] := FunD.bindsN F fun _ _ _ _ _ _ us hl => match us, hl with | [_], _ => rfl
theorem nd_21 : (T.N 21).Nodup := by decide +kernel
theorem sc_21 : FnScope (T.N 21) (T.ps 21) (defScope (T.st 21)) := ⟨rfl, rfl, rfl, nd_21, rfl, by decide +kernel, by decide +kernel⟩
theorem bd_21 {K : PySem.W.Frag} {f : Addr} {fd : FuncData} (F : T.D 21 K f fd) : Binds K fd (T.ps 21) [] := FunD.bindsN F fun _ _ _ _ _ _ us hl => match us, hl with | [_, _], _ => rfl
theorem nd_22 : (T.N 22).Nodup := by decide +kernel
theorem sc_22 : FnScope (T.N 22) (T.ps 22) (defScope (T.st 22)) := ⟨rfl, rfl, rfl, nd_22, rfl, by decide +kernel, by decide +kernel⟩
theorem bd_22 {K : PySem.W.Frag} {f : Addr} {fd : FuncData} (F : T.D 22 K f fd) : Binds K fd (T.ps 22) [] := FunD.bindsN F fun _ _ _ _ _ _ us hl => match us, hl with | [_, _], _ => rfl
theorem nd_23 : (T.N 23).Nodup := by decide +kernel
theorem sc_23 : FnScope (T.N 23) (T.ps 23) (defScope (T.st 23)) := ⟨rfl, rfl, rfl, nd_23, rfl, by decide +kernel, by decide +kernel⟩
theorem bd_23 {K : PySem.W.Frag} {f : Addr} {fd : FuncData} (F : T.D 23 K f fd) : Binds K fd (T.ps 23) [] := FunD.bindsN F fun _ _ _ _ _ _ us hl => match us, hl with | [_, _], _ => rfl
theorem nd_24 : (T.N 24).Nodup := by decide +kernel
theorem sc_24 : FnScope (T.N 24) (T.ps 24) (defScope (T.st 24)) := ⟨rfl, rfl, rfl, nd_24, rfl, by decide +kernel, by decide +kernel⟩
theorem bd_24 {K : PySem.W.Frag} {f : Addr} {fd : FuncData} (F : T.D 24 K f fd) : Binds K fd (T.ps 24) [] := FunD.bindsN F fun _ _ _ _ _ _ us hl => match us, hl with | [_, _], _ => rfl
theorem nd_25 : (T.N 25).Nodup := by decide +kernel
theorem sc_25 : FnScope (T.N 25) (T.ps 25) (defScope (T.st 25)) := ⟨rfl, rfl, rfl, nd_25, rfl, by decide +kernel, by decide +kernel⟩
theorem bd_25 {K : PySem.W.Frag} {f : Addr} {fd : FuncData} (F : T.D 25 K f fd) : Binds K fd (T.ps 25) [] := FunD.bindsN F fun _ _ _ _ _ _ us hl => match us, hl with | [_, _, _], _ => rfl
theorem nd_26 : (T.N 26).Nodup := by decide +kernel
theorem sc_26 : FnScope (T.N 26) (T.ps 26) (defScope (T.st 26)) := ⟨rfl, rfl, rfl, nd_26, rfl, by decide +kernel, by decide +kernel⟩
theorem bd_26 {K : PySem.W.Frag} {f : Addr} {fd : FuncData} (F : T.D 26 K f fd) : Binds K fd (T.ps 26) [] := FunD.bindsN F fun _ _ _ _ _ _ us hl => match us, hl with | [_, _, _], _ => rfl
theorem nd_27 : (T.N 27).Nodup := by decide +kernel
theorem sc_27 : FnScope (T.N 27) (T.ps 27) (defScope (T.st 27)) := ⟨rfl, rfl, rfl, nd_27, rfl, by decide +kernel, by decide +kernel⟩
theorem bd_27 {K : PySem.W.Frag} {f : Addr} {fd : FuncData} (F : T.D 27 K f fd) : Binds K fd (T.ps 27) [] := FunD.bindsN F fun _ _ _ _ _ _ us hl => match us, hl with | [_], _ => rfl
theorem nd_28 : (T.N 28).Nodup := by decide +kernel
theorem sc_28 : FnScope (T.N 28) (T.ps 28) (defScope (T.st 28)) := ⟨rfl, rfl, rfl, nd_28, rfl, by decide +kernel, by decide +kernel⟩
theorem bd_28 {K : PySem.W.Frag} {f : Addr} {fd : FuncData} (F : T.D 28 K f fd) : Binds K fd (T.ps 28) [] := FunD.bindsN F fun _ _ _ _ _ _ us hl => match us, hl with | [_, _], _ => rfl
theorem nd_29 : (T.N 29).Nodup := by decide +kernel
theorem sc_29 : FnScope (T.N 29) (T.ps 29) (defScope (T.st 29)) := ⟨rfl, rfl, rfl, nd_29, rfl, by decide +kernel, by decide +kernel⟩
theorem bd_29 {K : PySem.W.Frag} {f : Addr} {fd : FuncData} (F : T.D 29 K f fd) : Binds K fd (T.ps 29) [] := FunD.bindsN F fun _ _ _ _ _ _ us hl => match us, hl with | [_, _], _ => rfl
theorem nd_30 : (T.N 30).Nodup := by decide +kernel
theorem sc_30 : FnScope (T.N 30) (T.ps 30) (defScope (T.st 30)) := ⟨rfl, rfl, rfl, nd_30, rfl, by decide +kernel, by decide +kernel⟩
theorem bd_30 {K : PySem.W.Frag} {f : Addr} {fd : FuncData} (F : T.D 30 K f fd) : Binds K fd (T.ps 30) [] := FunD.bindsN F fun _ _ _ _ _ _ us hl => match us, hl with | [_, _], _ => rfl
theorem nd_31 : (T.N 31).Nodup := by decide +kernel
theorem sc_31 : FnScope (T.N 31) (T.ps 31) (defScope (T.st 31)) := ⟨rfl, rfl, rfl, nd_31, rfl, by decide +kernel, by decide +kernel⟩
theorem bd_31 {K : PySem.W.Frag} {f : Addr} {fd : FuncData} (F : T.D 31 K f fd) : Binds K fd (T.ps 31) [] := FunD.bindsN F fun _ _ _ _ _ _ us hl => match us, hl with | [_, _], _ => rfl
theorem nd_32 : (T.N 32).Nodup := by decide +kernel
theorem sc_32 : FnScope (T.N 32) (T.ps 32) (defScope (T.st 32)) := ⟨rfl, rfl, rfl, nd_32, rfl, by decide +kernel, by decide +kernel⟩
theorem bd_32 {K : PySem.W.Frag} {f : Addr} {fd : FuncData} (F : T.D 32 K f fd) : Binds K fd (T.ps 32) [] := FunD.bindsN F fun _ _ _ _ _ _ us hl => match us, hl with | [_], _ => rfl
theorem nd_33 : (T.N 33).Nodup := by decide +kernel
theorem sc_33 : FnScope (T.N 33) (T.ps 33) (defScope (T.st 33)) := ⟨rfl, rfl, rfl, nd_33, rfl, by decide +kernel, by decide +kernel⟩
theorem bd_33 {K : PySem.W.Frag} {f : Addr} {fd : FuncData} (F : T.D 33 K f fd) : Binds K fd (T.ps 33) [] := FunD.bindsN F fun _ _ _ _ _ _ us hl => match us, hl with | [_, _], _ => rfl
theorem nd_34 : (T.N 34).Nodup := by decide +kernel
theorem sc_34 : FnScope (T.N 34) (T.ps 34) (defScope (T.st 34)) := ⟨rfl, rfl, rfl, nd_34, rfl, by decide +kernel, by decide +kernel⟩
theorem bd_34 {K : PySem.W.Frag} {f : Addr} {fd : FuncData} (F : T.D 34 K f fd) : Binds K fd (T.ps 34) [] := FunD.bindsN F fun _ _ _ _ _ _ us hl => match us, hl with | [_], _ => rfl
theorem nd_35 : (T.N 35).Nodup := by decide +kernel
theorem sc_35 : FnScope (T.N 35) (T.ps 35) (defScope (T.st 35)) := ⟨rfl, rfl, rfl, nd_35, rfl, by decide +kernel, by decide +kernel⟩
theorem bd_35 {K : PySem.W.Frag} {f : Addr} {fd : FuncData} (F : T.D 35 K f fd) : Binds K fd (T.ps 35) [] := FunD.bindsN F fun _ _ _ _ _ _ us hl => match us, hl with | [_, _], _ => rfl
theorem nd_36 : (T.N 36).Nodup := by decide +kernel
theorem sc_36 : FnScope (T.N 36) (T.ps 36) (defScope (T.st 36)) := ⟨rfl, rfl, rfl, nd_36, rfl, by decide +kernel, by decide +kernel⟩
theorem bd_36 {K : PySem.W.Frag} {f : Addr} {fd : FuncData} (F : T.D 36 K f fd) : Binds K fd (T.ps 36) [] := FunD.bindsN F fun _ _ _ _ _ _ us hl => match us, hl with | [_, _], _ => rfl
theorem nd_37 : (T.N 37).Nodup := by decide +kernel
theorem sc_37 : FnScope (T.N 37) (T.ps 37) (defScope (T.st 37)) := ⟨rfl, rfl, rfl, nd_37, rfl, by decide +kernel, by decide +kernel⟩
theorem bd_37 {K : PySem.W.Frag} {f : Addr} {fd : FuncData} (F : T.D 37 K f fd) : Binds K fd (T.ps 37) [] := FunD.bindsN F fun _ _ _ _ _ _ us hl => match us, hl with | [_, _], _ => rfl
theorem nd_38 : (T.N 38).Nodup := by decide +kernel
theorem sc_38 : FnScope (T.N 38) (T.ps 38) (defScope (T.st 38)) := ⟨rfl, rfl, rfl, nd_38, rfl, by decide +kernel, by decide +kernel⟩
theorem bd_38 {K : PySem.W.Frag} {f : Addr} {fd : FuncData} (F : T.D 38 K f fd) : Binds K fd (T.ps 38) [] := FunD.bindsN F fun _ _ _ _ _ _ us hl => match us, hl with | [_, _, _], _ => rfl
theorem nd_39 : (T.N 39).Nodup := by decide +kernel
theorem sc_39 : FnScope (T.N 39) (T.ps 39) (defScope (T.st 39)) := ⟨rfl, rfl, rfl, nd_39, rfl, by decide +kernel, by decide +kernel⟩
theorem bd_39 {K : PySem.W.Frag} {f : Addr} {fd : FuncData} (F : T.D 39 K f fd) : Binds K fd (T.ps 39) [] := FunD.bindsN F fun _ _ _ _ _ _ us hl => match us, hl with | [_], _ => rfl
theorem nd_40 : (T.N 40).Nodup := by decide +kernel
theorem sc_40 : FnScope (T.N 40) (T.ps 40) (defScope (T.st 40)) := ⟨rfl, rfl, rfl, nd_40, rfl, by decide +kernel, by decide +kernel⟩
theorem bd_40 {K : PySem.W.Frag} {f : Addr} {fd : FuncData} (F : T.D 40 K f fd) : Binds K fd (T.ps 40) [] := FunD.bindsN F fun _ _ _ _ _ _ us hl => match us, hl with | [_], _ => rfl
theorem nd_41 : (T.N 41).Nodup := by decide +kernel
theorem sc_41 : FnScope (T.N 41) (T.ps 41) (defScope (T.st 41)) := ⟨rfl, rfl, rfl, nd_41, rfl, by decide +kernel, by decide +kernel⟩
theorem bd_41 {K : PySem.W.Frag} {f : Addr} {fd : FuncData} (F : T.D 41 K f fd) : Binds K fd (T.ps 41) [] := FunD.bindsN F fun _ _ _ _ _ _ us hl => match us, hl with | [_], _ => rfl
theorem nd_42 : (T.N 42).Nodup := by decide +kernel
theorem sc_42 : FnScope (T.N 42) (T.ps 42) (defScope (T.st 42)) := ⟨rfl, rfl, rfl, nd_42, rfl, by decide +kernel, by decide +kernel⟩
theorem bd_42 {K : PySem.W.Frag} {f : Addr} {fd : FuncData} (F : T.D 42 K f fd) : Binds K fd (T.ps 42) [] := FunD.bindsN F fun _ _ _ _ _ _ us hl => match us, hl with | [_], _ => rfl
theorem nd_43 : (T.N 43).Nodup := by decide +kernel
theorem sc_43 : FnScope (T.N 43) (T.ps 43) (defScope (T.st 43)) := ⟨rfl, rfl, rfl, nd_43, rfl, by decide +kernel, by decide +kernel⟩
theorem bd_43 {K : PySem.W.Frag} {f : Addr} {fd : FuncData} (F : T.D 43 K f fd) : Binds K fd (T.ps 43) [] := FunD.bindsN F fun _ _ _ _ _ _ us hl => match us, hl with | [_], _ => rfl
theorem nd_44 : (T.N 44).Nodup := by decide +kernel
theorem sc_44 : FnScope (T.N 44) (T.ps 44) (defScope (T.st 44)) := ⟨rfl, rfl, rfl, nd_44, rfl, by decide +kernel, by decide +kernel⟩
theorem bd_44 {K : PySem.W.Frag} {f : Addr} {fd : FuncData} (F : T.D 44 K f fd) : Binds K fd (T.ps 44) [] := FunD.bindsN F fun _ _ _ _ _ _ us hl => match us, hl with | [_], _ => rfl
theorem nd_45 : (T.N 45).Nodup := by decide +kernel
theorem sc_45 : FnScope (T.N 45) (T.ps 45) (defScope (T.st 45)) := ⟨rfl, rfl, rfl, nd_45, rfl, by decide +kernel, by decide +kernel⟩
theorem bd_45 {K : PySem.W.Frag} {f : Addr} {fd : FuncData} (F : T.D 45 K f fd) : Binds K fd (T.ps 45) [] := FunD.bindsN F fun _ _ _ _ _ _ us hl => match us, hl with | [_, _], _ => rfl
theorem nd_46 : (T.N 46).Nodup := by decide +kernel
theorem sc_46 : FnScope (T.N 46) (T.ps 46) (defScope (T.st 46)) := ⟨rfl, rfl, rfl, nd_46, rfl, by decide +kernel, by decide +kernel⟩
theorem bd_46 {K : PySem.W.Frag} {f : Addr} {fd : FuncData} (F : T.D 46 K f fd) : Binds K fd (T.ps 46) [] := FunD.bindsN F fun _ _ _ _ _ _ us hl => match us, hl with | [_, _, _], _ => rfl
theorem nd_47 : (T.N 47).Nodup := by decide +kernel
theorem sc_47 : FnScope (T.N 47) (T.ps 47) (defScope (T.st 47)) := ⟨rfl, rfl, rfl, nd_47, rfl, by decide +kernel, by decide +kernel⟩
theorem bd_47 {K : PySem.W.Frag} {f : Addr} {fd : FuncData} (F : T.D 47 K f fd) : Binds K fd (T.ps 47) [] := FunD.bindsN F fun _ _ _ _ _ _ us hl => match us, hl with | [_], _ => rfl
theorem nd_48 : (T.N 48).Nodup := by decide +kernel
theorem sc_48 : FnScope (T.N 48) (T.ps 48) (defScope (T.st 48)) := ⟨rfl, rfl, rfl, nd_48, rfl, by decide +kernel, by decide +kernel⟩
theorem bd_48 {K : PySem.W.Frag} {f : Addr} {fd : FuncData} (F : T.D 48 K f fd) : Binds K fd (T.ps 48) [] := FunD.bindsN F fun _ _ _ _ _ _ us hl => match us, hl with | [_], _ => rfl
theorem nd_49 : (T.N 49).Nodup := by decide +kernel
theorem sc_49 : FnScope (T.N 49) (T.ps 49) (defScope (T.st 49)) := ⟨rfl, rfl, rfl, nd_49, rfl, by decide +kernel, by decide +kernel⟩
theorem bd_49 {K : PySem.W.Frag} {f : Addr} {fd : FuncData} (F : T.D 49 K f fd) : Binds K fd (T.ps 49) [] := FunD.bindsN F fun _ _ _ _ _ _ us hl => match us, hl with | [_, _], _ => rfl
theorem nd_50 : (T.N 50).Nodup := by decide +kernel
theorem sc_50 : FnScope (T.N 50) (T.ps 50) (defScope (T.st 50)) := ⟨rfl, rfl, rfl, nd_50, rfl, by decide +kernel, by decide +kernel⟩
theorem bd_50 {K : PySem.W.Frag} {f : Addr} {fd : FuncData} (F : T.D 50 K f fd) : Binds K fd (T.ps 50) [] := FunD.bindsN F fun _ _ _ _ _ _ us hl => match us, hl with | [_, _], _ => rfl
theorem nd_51 : (T.N 51).Nodup := by decide +kernel
theorem sc_51 : FnScope (T.N 51) (T.ps 51) (defScope (T.st 51)) := ⟨rfl, rfl, rfl, nd_51, rfl, by decide +kernel, by decide +kernel⟩
theorem bd_51 {K : PySem.W.Frag} {f : Addr} {fd : FuncData} (F : T.D 51 K f fd) : Binds K fd (T.ps 51) [] := FunD.bindsN F fun _ _ _ _ _ _ us hl => match us, hl with | [_], _ => rfl
theorem kr_8 {K : PySem.W.Frag} {f : Addr} {fd : FuncData} (F : T.D 8 K f fd) : ∀ (s : Shared) (ws : List Value), K.In s.heap → ws.length = (T.ps 8).reverse.length → BindsTo s fd ⟨[], (T.ps 8).reverse.zip ws⟩ ((T.ps 8).zip ws.reverse) := FunD.kbR F fun _ _ _ _ _ _ ws hl => match ws, hl with | [_], _ => rfl
theorem kr_12 {K : PySem.W.Frag} {f : Addr} {fd : FuncData} (F : T.D 12 K f fd) : ∀ (s : Shared) (ws : List Value), K.In s.heap → ws.length = (T.ps 12).reverse.length → BindsTo s fd ⟨[], (T.ps 12).reverse.zip ws⟩ ((T.ps 12).zip ws.reverse) := FunD.kbR F fun _ _ _ _ _ _ ws hl => match ws, hl with | [_], _ => rfl
theorem kr_14 {K : PySem.W.Frag} {f : Addr} {fd : FuncData} (F : T.D 14 K f fd) : ∀ (s : Shared) (ws : List Value), K.In s.heap → ws.length = (T.ps 14).reverse.length → BindsTo s fd ⟨[], (T.ps 14).reverse.zip ws⟩ ((T.ps 14).zip ws.reverse) := FunD.kbR F fun _ _ _ _ _ _ ws hl => match ws, hl with | [_], _ => rfl
theorem kr_15 {K : PySem.W.Frag} {f : Addr} {fd : FuncData} (F : T.D 15 K f fd) : ∀ (s : Shared) (ws : List Value), K.In s.heap → ws.length = (T.ps 15).reverse.length → BindsTo s fd ⟨[], (T.ps 15).reverse.zip ws⟩ ((T.ps 15).zip ws.reverse) := FunD.kbR F fun _ _ _ _ _ _ ws hl => match ws, hl with | [_], _ => rfl
theorem kr_17 {K : PySem.W.Frag} {f : Addr} {fd : FuncData} (F : T.D 17 K f fd) : ∀ (s : Shared) (ws : List Value), K.In s.heap → ws.length = (T.ps 17).reverse.length → BindsTo s fd ⟨[], (T.ps 17).reverse.zip ws⟩ ((T.ps 17).zip ws.reverse) := FunD.kbR F fun _ _ _ _ _ _ ws hl => match ws, hl with | [_], _ => rfl
theorem kr_18 {K : PySem.W.Frag} {f : Addr} {fd : FuncData} (F : T.D 18 K f fd) : ∀ (s : Shared) (ws : List Value), K.In s.heap → ws.length = (T.ps 18).reverse.length → BindsTo s fd ⟨[], (T.ps 18).reverse.zip ws⟩ ((T.ps 18).zip ws.reverse) := FunD.kbR F fun _ _ _ _ _ _ ws hl => match ws, hl with | [_], _ => rfl
theorem kr_20 {K : PySem.W.Frag} {f : Addr} {fd : FuncData} (F : T.D 20 K f fd) : ∀ (s : Shared) (ws : List Value), K.In s.heap → ws.length = (T.ps 20).reverse.length → BindsTo s fd ⟨[], (T.ps 20).reverse.zip ws⟩ ((T.ps 20).zip ws.reverse) := FunD.kbR F fun _ _ _ _ _ _ ws hl => match ws, hl with | [_], _ => rfl
theorem kr_24 {K : PySem.W.Frag} {f : Addr} {fd : FuncData} (F : T.D 24 K f fd) : ∀ (s : Shared) (ws : List Value), K.In s.heap → ws.length = (T.ps 24).reverse.length → BindsTo s fd ⟨[], (T.ps 24).reverse.zip ws⟩ ((T.ps 24).zip ws.reverse) := FunD.kbR F fun _ _ _ _ _ _ ws hl => match ws, hl with | [_, _], _ => rfl
theorem kr_26 {K : PySem.W.Frag} {f : Addr} {fd : FuncData} (F : T.D 26 K f fd) : ∀ (s : Shared) (ws : List Value), K.In s.heap → ws.length = (T.ps 26).reverse.length → BindsTo s fd ⟨[], (T.ps 26).reverse.zip ws⟩ ((T.ps 26).zip ws.reverse) := FunD.kbR F fun _ _ _ _ _ _ ws hl => match ws, hl with | [_, _, _], _ => rfl
def toldR : List (Nat × Str × Str) := [(1, ("formula" : Str), ("formula" : Str)), (3, ("place" : Str), ("place" : Str)), (2, ("part" : Str), ("part" : Str))]
def qlam (j : Nat) : Str := (envOfC (T.nm j) (defScope (T.st j)) 0 0 .none).qual ++ "<lambda>"
theorem told_ok {K : PySem.W.Frag} {mg : Str → Option Value} {gv : Gv} (c : CS K mg) (g : Gx C nc K gv) : ToldOk K gv (toldR.map fun r => (r.1, He.ga K (C.nm r.1), r.2.1, r.2.2)) := c.told g toldR (by decide +kernel)
theorem toldG {K : PySem.W.Frag} {mg : Str → Option Value} {X : Cx} {q : Str} {cdv : Value} (h : ∀ j, j < nc → mg (C.nm j) = some (.ref (He.ga K (C.nm j)))) (hK : X.K = K) (hm : X.mg = mg) : LamX.GivesTo X (T.N 47) (T.nm 47) (defScope (T.st 47)) (He.ga K (T.nm 47)) cdv (defBody (T.st 47)) "ask" q (TToldL X.K ((toldR.map fun r => (r.1, He.ga K (C.nm r.1), r.2.1, r.2.2)).map fun r => (r.2.1, r.2.2.1, r.2.2.2))) := by
  subst hK hm
  exact told3 (a := "ask") rfl nd_47 rfl rfl rfl rfl rfl rfl rfl rfl rfl rfl (h 1 (by decide)) (h 3 (by decide)) (h 2 (by decide)) rfl rfl rfl (fun _ => rfl) (fun _ => rfl) (fun _ => rfl) (fun _ => rfl) (fun _ => rfl) (fun _ => rfl) (fun _ => rfl)
theorem fnv_ask {P : Program} {w : World} {K : PySem.W.Frag} {mg : Str → Option Value} {base : Heap} {G : Gc} {k : Nat} {rn : Nat → List VI.D → Store → Res} {lk : Addr → Prop} {pv : Bool} (c : CS K mg) (gf : ∀ j, j < nd → G.gv.f j = some (V.ref (He.ga K (T.nm j)))) (ih : Good T P w K mg base G k rn) (hlk : ∀ a, ¬ lk a) (hpv : pv = false) :
    ∀ j, ([12, 15, 17, 18, 14, 20] : List Nat).contains j = true → ∃ (f : Addr) (fd : FuncData) (ps : List Str) (pu : Bool), FnOk P w K mg base (L2.CX P w) k f fd ps (spD G 1 .z pu (rn j)) ∧ G.gv.f j = some (V.ref f) ∧ PySem.W.keepIn K (.ref f) = true ∧ Binds K fd ps [] ∧ (pv = true → pu = true) ∧ (pu = true ∨ ∀ a, ¬ lk a) := by
  intro j hj
  have hj2 : j = 12 ∨ j = 15 ∨ j = 17 ∨ j = 18 ∨ j = 14 ∨ j = 20 := by simpa using hj
  rcases hj2 with rfl | rfl | rfl | rfl | rfl | rfl
  · obtain ⟨fd, F⟩ := c.df 12 (by decide)
    exact ⟨_, fd, T.ps 12, T.pu 12, ih 12 _ _ F, gf 12 (by decide), F.kp, bd_12 F, (fun h => by rw [hpv] at h; cases h), .inr hlk⟩
  · obtain ⟨fd, F⟩ := c.df 15 (by decide)
    exact ⟨_, fd, T.ps 15, T.pu 15, ih 15 _ _ F, gf 15 (by decide), F.kp, bd_15 F, (fun h => by rw [hpv] at h; cases h), .inr hlk⟩
  · obtain ⟨fd, F⟩ := c.df 17 (by decide)
    exact ⟨_, fd, T.ps 17, T.pu 17, ih 17 _ _ F, gf 17 (by decide), F.kp, bd_17 F, (fun h => by rw [hpv] at h; cases h), .inr hlk⟩
  · obtain ⟨fd, F⟩ := c.df 18 (by decide)
    exact ⟨_, fd, T.ps 18, T.pu 18, ih 18 _ _ F, gf 18 (by decide), F.kp, bd_18 F, (fun h => by rw [hpv] at h; cases h), .inr hlk⟩
  · obtain ⟨fd, F⟩ := c.df 14 (by decide)
    exact ⟨_, fd, T.ps 14, T.pu 14, ih 14 _ _ F, gf 14 (by decide), F.kp, bd_14 F, (fun h => by rw [hpv] at h; cases h), .inr hlk⟩
  · obtain ⟨fd, F⟩ := c.df 20 (by decide)
    exact ⟨_, fd, T.ps 20, T.pu 20, ih 20 _ _ F, gf 20 (by decide), F.kp, bd_20 F, (fun h => by rw [hpv] at h; cases h), .inr hlk⟩
/-- the constants -/
structure Con (K : PySem.W.Frag) (w : World) (mg : Str → Option Value) : Prop where
  LETTERS : ∃ t, mg "LETTERS" = some (.str "abcdefghijklmnopqrstuvwxyz" t)
  TURNS : ∃ p, mg "TURNS" = some (.ref p) ∧ ∀ z y, tab_TURNS.lookup z = some y → KDct K w p z (.str y)
section
variable {P : Program} {w : World} {K : PySem.W.Frag} {mg : Str → Option Value} {base : Heap} {G : Gc} {k : Nat} {rn : Nat → List VI.D → Store → Res}
theorem w_0 (c : CS K mg) (g : Gx C nc K G.gv) (ih : Good T P w K mg base G (k + 3) rn) (kc : Con K w mg) (gf : ∀ j, j < nd → G.gv.f j = some (V.ref (He.ga K (T.nm j)))) (lk : Addr → Prop) (cdv : Value) (A : Around) (outer : List Env) (s : Shared) (H : Hp) (E : XK) {f : Addr} (hlk0 : T.pu 0 = true ∨ ∀ a, ¬ lk a) (hr : Room (k + 5) (A.deeper (envOfC (T.nm 0) (defScope (T.st 0)) s.heap.objs.size f cdv))) :
    PSs (cxOf (L2.CX P w) P w K mg base (T.N 0) (T.nm 0) (defScope (T.st 0)) f cdv A outer s H E) (defBody (T.st 0)) (tS (G.L lk) (fun cls d _ H' => E cls d H') (T.pu 0) .z (b_0 rn) (md0 (T.N 0).length (T.ps 0).length) [.z]) := by
  have hN := nd_0
  have hr3 := hr.mono (j := k + 3) (by omega)
  have hu65 := hr3.units65
  have hq := g.hq
  refine pss_consD (m' := [.z]) ?_ (pss_nilD)
  · exact (ps_retD (by decide) (.inl rfl) (by exact ⟨rfl, rfl⟩) (pe_andD (pe_isi1D (t := .int) (by rfl) (by exact c.fr _ m_isinstance) (pe_varD (by rfl) (vis_of (by rfl)) (by rfl) (by rfl)) (pe_ty (by exact tys c) (by rfl) (by rfl)) rfl rfl rfl) (pe_and1D (pe_notD (pe_isi1D (t := .bool) (by rfl) (by exact c.fr _ m_isinstance) (pe_varD (by rfl) (vis_of (by rfl)) (by rfl) (by rfl)) (pe_ty (by exact tys c) (by rfl) (by rfl)) rfl rfl rfl)))))
theorem w_1 (c : CS K mg) (g : Gx C nc K G.gv) (ih : Good T P w K mg base G (k + 3) rn) (kc : Con K w mg) (gf : ∀ j, j < nd → G.gv.f j = some (V.ref (He.ga K (T.nm j)))) (lk : Addr → Prop) (cdv : Value) (A : Around) (outer : List Env) (s : Shared) (H : Hp) (E : XK) {f : Addr} (hlk0 : T.pu 1 = true ∨ ∀ a, ¬ lk a) (hr : Room (k + 5) (A.deeper (envOfC (T.nm 1) (defScope (T.st 1)) s.heap.objs.size f cdv))) :
    PSs (cxOf (L2.CX P w) P w K mg base (T.N 1) (T.nm 1) (defScope (T.st 1)) f cdv A outer s H E) (defBody (T.st 1)) (tS (G.L lk) (fun cls d _ H' => E cls d H') (T.pu 1) .z (b_1 rn) (md0 (T.N 1).length (T.ps 1).length) [.z]) := by
  obtain ⟨fd0, F0⟩ := c.df 0 (by decide)
  have hN := nd_1
  have hr3 := hr.mono (j := k + 3) (by omega)
  have hu65 := hr3.units65
  have hq := g.hq
  refine pss_consD (m' := [.z]) ?_ (pss_nilD)
  · exact (ps_retD (by decide) (.inl rfl) (by exact ⟨⟨rfl, trivial⟩, ⟨rfl, trivial⟩⟩) (pe_andD (pe_callD (ih 0 _ _ F0) (by exact hr3) (by rfl) (by exact c.gl 0 (by decide)) (by exact F0.kp) (by exact bd_0 F0) (by exact takesD) (by exact (fun _ => rfl)) (by exact (.inl rfl)) (lenN len0) (pa_consD (fun _ => by decide) (pe_varD (by rfl) (vis_of (by rfl)) (by rfl) (by rfl)) pa_nilD rfl) (by rfl) (by rfl) (by rfl)) (pe_and1D (pe_geD (pe_varD (by rfl) (vis_of (by rfl)) (by rfl) (by rfl)) pe_intD))))
theorem w_2 (c : CS K mg) (g : Gx C nc K G.gv) (ih : Good T P w K mg base G (k + 3) rn) (kc : Con K w mg) (gf : ∀ j, j < nd → G.gv.f j = some (V.ref (He.ga K (T.nm j)))) (lk : Addr → Prop) (cdv : Value) (A : Around) (outer : List Env) (s : Shared) (H : Hp) (E : XK) {f : Addr} (hlk0 : T.pu 2 = true ∨ ∀ a, ¬ lk a) (hr : Room (k + 5) (A.deeper (envOfC (T.nm 2) (defScope (T.st 2)) s.heap.objs.size f cdv))) :
    PSs (cxOf (L2.CX P w) P w K mg base (T.N 2) (T.nm 2) (defScope (T.st 2)) f cdv A outer s H E) (defBody (T.st 2)) (tS (G.L lk) (fun cls d _ H' => E cls d H') (T.pu 2) .z (b_2 rn) (md0 (T.N 2).length (T.ps 2).length) [.z]) := by
  have hN := nd_2
  have hr3 := hr.mono (j := k + 3) (by omega)
  have hu65 := hr3.units65
  have hq := g.hq
  refine pss_consD (m' := [.z]) ?_ (pss_nilD)
  · exact (ps_retD (by decide) (.inl rfl) (by exact rfl) (pe_isiTD (ts := [.list, .tuple]) (by rfl) (by exact c.fr _ m_isinstance) (pe_varD (by rfl) (vis_of (by rfl)) (by rfl) (by rfl)) (tys c) rfl rfl rfl rfl))
theorem w_3 (c : CS K mg) (g : Gx C nc K G.gv) (ih : Good T P w K mg base G (k + 3) rn) (kc : Con K w mg) (gf : ∀ j, j < nd → G.gv.f j = some (V.ref (He.ga K (T.nm j)))) (lk : Addr → Prop) (cdv : Value) (A : Around) (outer : List Env) (s : Shared) (H : Hp) (E : XK) {f : Addr} (hlk0 : T.pu 3 = true ∨ ∀ a, ¬ lk a) (hr : Room (k + 5) (A.deeper (envOfC (T.nm 3) (defScope (T.st 3)) s.heap.objs.size f cdv))) :
    PSs (cxOf (L2.CX P w) P w K mg base (T.N 3) (T.nm 3) (defScope (T.st 3)) f cdv A outer s H E) (defBody (T.st 3)) (tS (G.L lk) (fun cls d _ H' => E cls d H') (T.pu 3) .z (b_3 rn) (md0 (T.N 3).length (T.ps 3).length) [.z, .z]) := by
  obtain ⟨fd2, F2⟩ := c.df 2 (by decide)
  have hN := nd_3
  have hr3 := hr.mono (j := k + 3) (by omega)
  have hu65 := hr3.units65
  have hq := g.hq
  refine pss_consD (m' := [.z, .z]) ?_ (pss_nilD)
  · exact (ps_retD (by decide) (.inl rfl) (by exact ⟨⟨rfl, trivial⟩, ⟨⟨rfl, trivial⟩, rfl⟩⟩) (pe_andD (pe_callD (ih 2 _ _ F2) (by exact hr3) (by rfl) (by exact c.gl 2 (by decide)) (by exact F2.kp) (by exact bd_2 F2) (by exact takesD) (by exact (fun _ => rfl)) (by exact (.inl rfl)) (lenN len0) (pa_consD (fun _ => by decide) (pe_varD (by rfl) (vis_of (by rfl)) (by rfl) (by rfl)) pa_nilD rfl) (by rfl) (by rfl) (by rfl)) (pe_and1D (pe_eqD hr3.units (pe_lenD (by rfl) (by exact c.fr _ m_len) (pa_consD (st := false) (fun h => by cases h) (pe_varD (by rfl) (vis_of (by rfl)) (by rfl) (by rfl)) (pa_nilD (st := false)) rfl) rfl rfl) (pe_varD (by rfl) (vis_of (by rfl)) (by rfl) (by rfl))))))
theorem w_4 (c : CS K mg) (g : Gx C nc K G.gv) (ih : Good T P w K mg base G (k + 3) rn) (kc : Con K w mg) (gf : ∀ j, j < nd → G.gv.f j = some (V.ref (He.ga K (T.nm j)))) (lk : Addr → Prop) (cdv : Value) (A : Around) (outer : List Env) (s : Shared) (H : Hp) (E : XK) {f : Addr} (hlk0 : T.pu 4 = true ∨ ∀ a, ¬ lk a) (hr : Room (k + 5) (A.deeper (envOfC (T.nm 4) (defScope (T.st 4)) s.heap.objs.size f cdv))) :
    PSs (cxOf (L2.CX P w) P w K mg base (T.N 4) (T.nm 4) (defScope (T.st 4)) f cdv A outer s H E) (defBody (T.st 4)) (tS (G.L lk) (fun cls d _ H' => E cls d H') (T.pu 4) .z (b_4 rn) (md0 (T.N 4).length (T.ps 4).length) [.z]) := by
  have hN := nd_4
  have hr3 := hr.mono (j := k + 3) (by omega)
  have hu65 := hr3.units65
  have hq := g.hq
  refine pss_consD (m' := [.z]) ?_ (pss_nilD)
  · exact (ps_retD (by decide) (.inl rfl) (by exact rfl) (pe_isi1D (t := .str) (by rfl) (by exact c.fr _ m_isinstance) (pe_varD (by rfl) (vis_of (by rfl)) (by rfl) (by rfl)) (pe_ty (by exact tys c) (by rfl) (by rfl)) rfl rfl rfl))
theorem w_5 (c : CS K mg) (g : Gx C nc K G.gv) (ih : Good T P w K mg base G (k + 3) rn) (kc : Con K w mg) (gf : ∀ j, j < nd → G.gv.f j = some (V.ref (He.ga K (T.nm j)))) (lk : Addr → Prop) (cdv : Value) (A : Around) (outer : List Env) (s : Shared) (H : Hp) (E : XK) {f : Addr} (hlk0 : T.pu 5 = true ∨ ∀ a, ¬ lk a) (hr : Room (k + 5) (A.deeper (envOfC (T.nm 5) (defScope (T.st 5)) s.heap.objs.size f cdv))) :
    PSs (cxOf (L2.CX P w) P w K mg base (T.N 5) (T.nm 5) (defScope (T.st 5)) f cdv A outer s H E) (defBody (T.st 5)) (tS (G.L lk) (fun cls d _ H' => E cls d H') (T.pu 5) .z (b_5 rn) (md0 (T.N 5).length (T.ps 5).length) [.z, .x]) := by
  obtain ⟨fd4, F4⟩ := c.df 4 (by decide)
  have hN := nd_5
  have hr3 := hr.mono (j := k + 3) (by omega)
  have hu65 := hr3.units65
  have hq := g.hq
  refine pss_consD (m' := [.z, .x]) ?_ (pss_nilD)
  · exact (ps_retD (by decide) (.inl rfl) (by exact ⟨⟨rfl, trivial⟩, ⟨⟨⟨rfl, trivial⟩, trivial⟩, ⟨⟨rfl, trivial, ⟨rfl, trivial⟩⟩, trivial⟩⟩⟩) (pe_andD (pe_callD (ih 4 _ _ F4) (by exact hr3) (by rfl) (by exact c.gl 4 (by decide)) (by exact F4.kp) (by exact bd_4 F4) (by exact takesD) (by exact (fun _ => rfl)) (by exact (.inl rfl)) (lenN len0) (pa_consD (fun _ => by decide) (pe_varD (by rfl) (vis_of (by rfl)) (by rfl) (by rfl)) pa_nilD rfl) (by rfl) (by rfl) (by rfl)) (pe_andD (pe_gtD (pe_lenD (by rfl) (by exact c.fr _ m_len) (pa_consD (st := false) (fun h => by cases h) (pe_varD (by rfl) (vis_of (by rfl)) (by rfl) (by rfl)) (pa_nilD (st := false)) rfl) rfl rfl) pe_intD) (pe_and1D (pe_allD rfl (by rfl) (by exact c.fr _ m_all) (pa_consD (st := false) (fun h => by cases h) (pe_lcD (own := [("sign", 1)]) (t := (.one 1)) rfl hN (blkOk_by rfl) (by decide) (by decide) (pi_seqP (pe_varD (by rfl) (vis_of (by rfl)) (by rfl) (by rfl))) (fun _ _ _ _ _ => (.one (nameOk_of rfl rfl))) (fun _ _ _ _ _ => pts_nilD) (fun _ _ _ _ _ => (pe_inD rfl hr3.units65 (pe_varD (by rfl) (vis_of (by rfl)) (by rfl) (by rfl)) (pe_globD (v := .str "abcdefghijklmnopqrstuvwxyz") (by rfl) (by exact (kc.LETTERS).choose_spec) ⟨_, rfl⟩ (by exact fun _ _ _ => .str _) (by rfl)))) (fun _ => rfl)) (pa_nilD (st := false)) rfl) rfl rfl)))))
theorem w_6 (c : CS K mg) (g : Gx C nc K G.gv) (ih : Good T P w K mg base G (k + 3) rn) (kc : Con K w mg) (gf : ∀ j, j < nd → G.gv.f j = some (V.ref (He.ga K (T.nm j)))) (lk : Addr → Prop) (cdv : Value) (A : Around) (outer : List Env) (s : Shared) (H : Hp) (E : XK) {f : Addr} (hlk0 : T.pu 6 = true ∨ ∀ a, ¬ lk a) (hr : Room (k + 5) (A.deeper (envOfC (T.nm 6) (defScope (T.st 6)) s.heap.objs.size f cdv))) :
    PSs (cxOf (L2.CX P w) P w K mg base (T.N 6) (T.nm 6) (defScope (T.st 6)) f cdv A outer s H E) (defBody (T.st 6)) (tS (G.L lk) (fun cls d _ H' => E cls d H') (T.pu 6) .z (b_6 rn) (md0 (T.N 6).length (T.ps 6).length) [.z]) := by
  obtain ⟨fd5, F5⟩ := c.df 5 (by decide)
  have hN := nd_6
  have hr3 := hr.mono (j := k + 3) (by omega)
  have hu65 := hr3.units65
  have hq := g.hq
  refine pss_consD (m' := [.z]) ?_ (pss_nilD)
  · exact (ps_retD (by decide) (.inl rfl) (by exact ⟨⟨rfl, trivial⟩, ⟨⟨rfl, trivial⟩, trivial⟩⟩) (pe_andD (pe_callD (ih 5 _ _ F5) (by exact hr3) (by rfl) (by exact c.gl 5 (by decide)) (by exact F5.kp) (by exact bd_5 F5) (by exact takesD) (by exact (fun _ => rfl)) (by exact (.inl rfl)) (lenN len0) (pa_consD (fun _ => by decide) (pe_varD (by rfl) (vis_of (by rfl)) (by rfl) (by rfl)) pa_nilD rfl) (by rfl) (by rfl) (by rfl)) (pe_and1D (pe_leD (pe_lenD (by rfl) (by exact c.fr _ m_len) (pa_consD (st := false) (fun h => by cases h) (pe_varD (by rfl) (vis_of (by rfl)) (by rfl) (by rfl)) (pa_nilD (st := false)) rfl) rfl rfl) pe_intD))))
theorem w_7 (c : CS K mg) (g : Gx C nc K G.gv) (ih : Good T P w K mg base G (k + 3) rn) (kc : Con K w mg) (gf : ∀ j, j < nd → G.gv.f j = some (V.ref (He.ga K (T.nm j)))) (lk : Addr → Prop) (cdv : Value) (A : Around) (outer : List Env) (s : Shared) (H : Hp) (E : XK) {f : Addr} (hlk0 : T.pu 7 = true ∨ ∀ a, ¬ lk a) (hr : Room (k + 5) (A.deeper (envOfC (T.nm 7) (defScope (T.st 7)) s.heap.objs.size f cdv))) :
    PSs (cxOf (L2.CX P w) P w K mg base (T.N 7) (T.nm 7) (defScope (T.st 7)) f cdv A outer s H E) (defBody (T.st 7)) (tS (G.L lk) (fun cls d _ H' => E cls d H') (T.pu 7) .z (b_7 rn) (md0 (T.N 7).length (T.ps 7).length) [.z]) := by
  have hN := nd_7
  have hr3 := hr.mono (j := k + 3) (by omega)
  have hu65 := hr3.units65
  have hq := g.hq
  refine pss_consD (m' := [.z]) ?_ (pss_nilD)
  · exact (ps_retD (by decide) (.inl rfl) (by exact ⟨⟨rfl, trivial⟩, ⟨trivial, ⟨trivial, trivial⟩⟩⟩) (pe_inD rfl hr3.units65 (pe_ixAD hr3.units (fun _ _ => rfl) (pe_varD (by rfl) (vis_of (by rfl)) (by rfl) (by rfl)) pe_intD) (pe_tupD (pa_consD (fun _ => by decide) pe_strD (pa_consD (fun _ => by decide) pe_strD pa_nilD rfl) rfl))))
theorem w_8 (c : CS K mg) (g : Gx C nc K G.gv) (ih : Good T P w K mg base G (k + 3) rn) (kc : Con K w mg) (gf : ∀ j, j < nd → G.gv.f j = some (V.ref (He.ga K (T.nm j)))) (lk : Addr → Prop) (cdv : Value) (A : Around) (outer : List Env) (s : Shared) (H : Hp) (E : XK) {f : Addr} (hlk0 : T.pu 8 = true ∨ ∀ a, ¬ lk a) (hr : Room (k + 5) (A.deeper (envOfC (T.nm 8) (defScope (T.st 8)) s.heap.objs.size f cdv))) :
    PSs (cxOf (L2.CX P w) P w K mg base (T.N 8) (T.nm 8) (defScope (T.st 8)) f cdv A outer s H E) (defBody (T.st 8)) (tS (G.L lk) (fun cls d _ H' => E cls d H') (T.pu 8) .z (b_8 rn) (md0 (T.N 8).length (T.ps 8).length) [.z]) := by
  obtain ⟨fd3, F3⟩ := c.df 3 (by decide)
  obtain ⟨fd4, F4⟩ := c.df 4 (by decide)
  obtain ⟨fd6, F6⟩ := c.df 6 (by decide)
  obtain ⟨fd8, F8⟩ := c.df 8 (by decide)
  have hN := nd_8
  have hr3 := hr.mono (j := k + 3) (by omega)
  have hu65 := hr3.units65
  have hq := g.hq
  refine pss_consD (m' := [.z]) ?_ (pss_consD (m' := [.z]) ?_ (pss_consD (m' := [.z]) ?_ (pss_nilD)))
  · exact (ps_ifD (by exact ⟨rfl, ⟨trivial, trivial⟩⟩) (pt_valD (pe_callD (ih 3 _ _ F3) (by exact hr3) (by rfl) (by exact c.gl 3 (by decide)) (by exact F3.kp) (by exact bd_3 F3) (by exact takesD) (by exact (fun _ => rfl)) (by exact (.inl rfl)) (lenN (lenN len0)) (pa_consD (fun _ => by decide) (pe_varD (by rfl) (vis_of (by rfl)) (by rfl) (by rfl)) (pa_consD (fun _ => by decide) pe_intD pa_nilD rfl) rfl) (by rfl) (by rfl) (by rfl)) (fun _ => rfl)) (pss_consD (ps_retD (by decide) (.inl rfl) (by exact ⟨⟨⟨rfl, trivial⟩, trivial⟩, ⟨⟨⟨rfl, trivial⟩, ⟨trivial, ⟨trivial, trivial⟩⟩⟩, ⟨⟨rfl, trivial⟩, trivial⟩⟩⟩) (pe_andD (pe_callD (ih 4 _ _ F4) (by exact hr3) (by rfl) (by exact c.gl 4 (by decide)) (by exact F4.kp) (by exact bd_4 F4) (by exact takesD) (by exact (fun _ => rfl)) (by exact (.inl rfl)) (lenN len0) (pa_consD (fun _ => by decide) (pe_ixAD hr3.units (fun _ _ => rfl) (pe_varD (by rfl) (vis_of (by rfl)) (by rfl) (by rfl)) pe_intD) pa_nilD rfl) (by rfl) (by rfl) (by rfl)) (pe_andD (pe_inD rfl hr3.units65 (pe_ixAD hr3.units (fun _ _ => rfl) (pe_varD (by rfl) (vis_of (by rfl)) (by rfl) (by rfl)) pe_intD) (pe_tupD (pa_consD (fun _ => by decide) pe_strD (pa_consD (fun _ => by decide) pe_strD pa_nilD rfl) rfl))) (pe_and1D (pe_callD (ih 6 _ _ F6) (by exact hr3) (by rfl) (by exact c.gl 6 (by decide)) (by exact F6.kp) (by exact bd_6 F6) (by exact takesD) (by exact (fun _ => rfl)) (by exact (.inl rfl)) (lenN len0) (pa_consD (fun _ => by decide) (pe_ixAD hr3.units (fun _ _ => rfl) (pe_varD (by rfl) (vis_of (by rfl)) (by rfl) (by rfl)) pe_intD) pa_nilD rfl) (by rfl) (by rfl) (by rfl)))))) pss_nilD) pss_nilD)
  · exact (ps_ifD (by exact ⟨⟨rfl, ⟨trivial, trivial⟩⟩, ⟨⟨⟨rfl, trivial⟩, trivial⟩, ⟨⟨rfl, trivial⟩, ⟨trivial, ⟨trivial, trivial⟩⟩⟩⟩⟩) (PW.pt (pw_orD (pt_notD (pt_valD (pe_callD (ih 3 _ _ F3) (by exact hr3) (by rfl) (by exact c.gl 3 (by decide)) (by exact F3.kp) (by exact bd_3 F3) (by exact takesD) (by exact (fun _ => rfl)) (by exact (.inl rfl)) (lenN (lenN len0)) (pa_consD (fun _ => by decide) (pe_varD (by rfl) (vis_of (by rfl)) (by rfl) (by rfl)) (pa_consD (fun _ => by decide) pe_intD pa_nilD rfl) rfl) (by rfl) (by rfl) (by rfl)) (fun _ => rfl))) (pw_orD (pt_notD (pt_valD (pe_callD (ih 4 _ _ F4) (by exact hr3) (by rfl) (by exact c.gl 4 (by decide)) (by exact F4.kp) (by exact bd_4 F4) (by exact takesD) (by exact (fun _ => rfl)) (by exact (.inl rfl)) (lenN len0) (pa_consD (fun _ => by decide) (pe_ixAD hr3.units (fun _ _ => rfl) (pe_varD (by rfl) (vis_of (by rfl)) (by rfl) (by rfl)) pe_intD) pa_nilD rfl) (by rfl) (by rfl) (by rfl)) (fun _ => rfl))) (pw_or1D (pt_notInD rfl hr3.units65 (pe_ixAD hr3.units (fun _ _ => rfl) (pe_varD (by rfl) (vis_of (by rfl)) (by rfl) (by rfl)) pe_intD) (pe_tupD (pa_consD (fun _ => by decide) pe_strD (pa_consD (fun _ => by decide) pe_strD pa_nilD rfl) rfl))))))) (pss_consD (ps_retD (by decide) (.inl rfl) (by exact trivial) pe_boolD) pss_nilD) pss_nilD)
  · exact (ps_retD (by decide) (.inl rfl) (by exact ⟨⟨⟨rfl, trivial⟩, trivial⟩, ⟨⟨rfl, trivial⟩, trivial⟩⟩) (pe_andD (pe_callD (ih 8 _ _ F8) (by exact hr3) (by rfl) (by exact c.gl 8 (by decide)) (by exact F8.kp) (by exact bd_8 F8) (by exact takesD) (by exact (fun _ => rfl)) (by exact (.inl rfl)) (lenN len0) (pa_consD (fun _ => by decide) (pe_ixAD hr3.units (fun _ _ => rfl) (pe_varD (by rfl) (vis_of (by rfl)) (by rfl) (by rfl)) pe_intD) pa_nilD rfl) (by rfl) (by rfl) (by rfl)) (pe_and1D (pe_callD (ih 8 _ _ F8) (by exact hr3) (by rfl) (by exact c.gl 8 (by decide)) (by exact F8.kp) (by exact bd_8 F8) (by exact takesD) (by exact (fun _ => rfl)) (by exact (.inl rfl)) (lenN len0) (pa_consD (fun _ => by decide) (pe_ixAD hr3.units (fun _ _ => rfl) (pe_varD (by rfl) (vis_of (by rfl)) (by rfl) (by rfl)) pe_intD) pa_nilD rfl) (by rfl) (by rfl) (by rfl)))))
theorem w_9 (c : CS K mg) (g : Gx C nc K G.gv) (ih : Good T P w K mg base G (k + 3) rn) (kc : Con K w mg) (gf : ∀ j, j < nd → G.gv.f j = some (V.ref (He.ga K (T.nm j)))) (lk : Addr → Prop) (cdv : Value) (A : Around) (outer : List Env) (s : Shared) (H : Hp) (E : XK) {f : Addr} (hlk0 : T.pu 9 = true ∨ ∀ a, ¬ lk a) (hr : Room (k + 5) (A.deeper (envOfC (T.nm 9) (defScope (T.st 9)) s.heap.objs.size f cdv))) :
    PSs (cxOf (L2.CX P w) P w K mg base (T.N 9) (T.nm 9) (defScope (T.st 9)) f cdv A outer s H E) (defBody (T.st 9)) (tS (G.L lk) (fun cls d _ H' => E cls d H') (T.pu 9) .z (b_9 rn) (md0 (T.N 9).length (T.ps 9).length) [.z]) := by
  obtain ⟨fd7, F7⟩ := c.df 7 (by decide)
  obtain ⟨fd9, F9⟩ := c.df 9 (by decide)
  have hN := nd_9
  have hr3 := hr.mono (j := k + 3) (by omega)
  have hu65 := hr3.units65
  have hq := g.hq
  refine pss_consD (m' := [.z]) ?_ (pss_consD (m' := [.z]) ?_ (pss_nilD))
  · exact (ps_ifD (by exact ⟨rfl, trivial⟩) (pt_valD (pe_callD (ih 7 _ _ F7) (by exact hr3) (by rfl) (by exact c.gl 7 (by decide)) (by exact F7.kp) (by exact bd_7 F7) (by exact takesD) (by exact (fun _ => rfl)) (by exact (.inl rfl)) (lenN len0) (pa_consD (fun _ => by decide) (pe_varD (by rfl) (vis_of (by rfl)) (by rfl) (by rfl)) pa_nilD rfl) (by rfl) (by rfl) (by rfl)) (fun _ => rfl)) (pss_consD (ps_retD (by decide) (.inl rfl) (by exact ⟨⟨rfl, trivial⟩, ⟨⟨rfl, trivial⟩, trivial⟩⟩) (pe_tupD (pa_consD (fun _ => by decide) (pe_ixAD hr3.units (fun _ _ => rfl) (pe_varD (by rfl) (vis_of (by rfl)) (by rfl) (by rfl)) pe_intD) (pa_consD (fun _ => by decide) (pe_ixAD hr3.units (fun _ _ => rfl) (pe_varD (by rfl) (vis_of (by rfl)) (by rfl) (by rfl)) pe_intD) pa_nilD rfl) rfl))) pss_nilD) pss_nilD)
  · exact (ps_retD (by decide) (.inl rfl) (by exact ⟨⟨rfl, trivial⟩, ⟨⟨⟨rfl, trivial⟩, trivial⟩, ⟨⟨⟨rfl, trivial⟩, trivial⟩, trivial⟩⟩⟩) (pe_tupD (pa_consD (fun _ => by decide) (pe_ixAD hr3.units (fun _ _ => rfl) (pe_varD (by rfl) (vis_of (by rfl)) (by rfl) (by rfl)) pe_intD) (pa_consD (fun _ => by decide) (pe_callD (ih 9 _ _ F9) (by exact hr3) (by rfl) (by exact c.gl 9 (by decide)) (by exact F9.kp) (by exact bd_9 F9) (by exact takesD) (by exact (fun _ => rfl)) (by exact (.inl rfl)) (lenN len0) (pa_consD (fun _ => by decide) (pe_ixAD hr3.units (fun _ _ => rfl) (pe_varD (by rfl) (vis_of (by rfl)) (by rfl) (by rfl)) pe_intD) pa_nilD rfl) (by rfl) (by rfl) (by rfl)) (pa_consD (fun _ => by decide) (pe_callD (ih 9 _ _ F9) (by exact hr3) (by rfl) (by exact c.gl 9 (by decide)) (by exact F9.kp) (by exact bd_9 F9) (by exact takesD) (by exact (fun _ => rfl)) (by exact (.inl rfl)) (lenN len0) (pa_consD (fun _ => by decide) (pe_ixAD hr3.units (fun _ _ => rfl) (pe_varD (by rfl) (vis_of (by rfl)) (by rfl) (by rfl)) pe_intD) pa_nilD rfl) (by rfl) (by rfl) (by rfl)) pa_nilD rfl) rfl) rfl)))
theorem w_10 (c : CS K mg) (g : Gx C nc K G.gv) (ih : Good T P w K mg base G (k + 3) rn) (kc : Con K w mg) (gf : ∀ j, j < nd → G.gv.f j = some (V.ref (He.ga K (T.nm j)))) (lk : Addr → Prop) (cdv : Value) (A : Around) (outer : List Env) (s : Shared) (H : Hp) (E : XK) {f : Addr} (hlk0 : T.pu 10 = true ∨ ∀ a, ¬ lk a) (hr : Room (k + 5) (A.deeper (envOfC (T.nm 10) (defScope (T.st 10)) s.heap.objs.size f cdv))) :
    PSs (cxOf (L2.CX P w) P w K mg base (T.N 10) (T.nm 10) (defScope (T.st 10)) f cdv A outer s H E) (defBody (T.st 10)) (tS (G.L lk) (fun cls d _ H' => E cls d H') (T.pu 10) .z (b_10 rn) (md0 (T.N 10).length (T.ps 10).length) [.z]) := by
  obtain ⟨fd8, F8⟩ := c.df 8 (by decide)
  have hN := nd_10
  have hr3 := hr.mono (j := k + 3) (by omega)
  have hu65 := hr3.units65
  have hr1 := hr.mono (j := 2) (by omega)
  have hq := g.hq
  obtain ⟨ox1, in1, ti1, nf1⟩ := c.oex (j := 1) (f := "formula") (by decide) rfl
  obtain ⟨fc1, D1⟩ := c.ci 1 (by decide) (by decide)
  refine pss_consD (m' := [.z]) ?_ (pss_nilD)
  · exact (ps_ifD (by exact ⟨rfl, trivial⟩) (pt_notD (pt_valD (pe_callD (ih 8 _ _ F8) (by exact hr3) (by rfl) (by exact c.gl 8 (by decide)) (by exact F8.kp) (by exact bd_8 F8) (by exact takesD) (by exact (fun _ => rfl)) (by exact (.inl rfl)) (lenN len0) (pa_consD (fun _ => by decide) (pe_varD (by rfl) (vis_of (by rfl)) (by rfl) (by rfl)) pa_nilD rfl) (by rfl) (by rfl) (by rfl)) (fun _ => rfl))) (pss_consD (ps_raiseD rfl (by exact takesD) ox1 in1 ti1 (okI_1 D1) (by exact hr1) (bi_1 D1) nf1 (by rfl) (by exact c.cg 1 (by decide)) (by exact (g.x 1).trans (if_pos (by decide))) (by exact rfl) (pe_varD (by rfl) (vis_of (by rfl)) (by rfl) (by rfl)) rfl rfl) pss_nilD) pss_nilD)
theorem w_11 (c : CS K mg) (g : Gx C nc K G.gv) (ih : Good T P w K mg base G (k + 3) rn) (kc : Con K w mg) (gf : ∀ j, j < nd → G.gv.f j = some (V.ref (He.ga K (T.nm j)))) (lk : Addr → Prop) (cdv : Value) (A : Around) (outer : List Env) (s : Shared) (H : Hp) (E : XK) {f : Addr} (hlk0 : T.pu 11 = true ∨ ∀ a, ¬ lk a) (hr : Room (k + 5) (A.deeper (envOfC (T.nm 11) (defScope (T.st 11)) s.heap.objs.size f cdv))) :
    PSs (cxOf (L2.CX P w) P w K mg base (T.N 11) (T.nm 11) (defScope (T.st 11)) f cdv A outer s H E) (defBody (T.st 11)) (tS (G.L lk) (fun cls d _ H' => E cls d H') (T.pu 11) .z (b_11 rn) (md0 (T.N 11).length (T.ps 11).length) [.z]) := by
  obtain ⟨fd7, F7⟩ := c.df 7 (by decide)
  obtain ⟨fd11, F11⟩ := c.df 11 (by decide)
  have hN := nd_11
  have hr3 := hr.mono (j := k + 3) (by omega)
  have hu65 := hr3.units65
  have hq := g.hq
  refine pss_consD (m' := [.z]) ?_ (pss_consD (m' := [.z]) ?_ (pss_nilD))
  · exact (ps_ifD (by exact ⟨rfl, trivial⟩) (pt_valD (pe_callD (ih 7 _ _ F7) (by exact hr3) (by rfl) (by exact c.gl 7 (by decide)) (by exact F7.kp) (by exact bd_7 F7) (by exact takesD) (by exact (fun _ => rfl)) (by exact (.inl rfl)) (lenN len0) (pa_consD (fun _ => by decide) (pe_varD (by rfl) (vis_of (by rfl)) (by rfl) (by rfl)) pa_nilD rfl) (by rfl) (by rfl) (by rfl)) (fun _ => rfl)) (pss_consD (ps_retD (by decide) (.inl rfl) (by exact ⟨⟨rfl, trivial⟩, ⟨⟨rfl, trivial⟩, trivial⟩⟩) (pe_tupD (pa_consD (fun _ => by decide) (pe_tabD (by rfl) (by exact (kc.TURNS).choose_spec.1) (by rfl) (by exact (kc.TURNS).choose_spec.2) (pe_ixAD hr3.units (fun _ _ => rfl) (pe_varD (by rfl) (vis_of (by rfl)) (by rfl) (by rfl)) pe_intD) (fun _ _ => rfl)) (pa_consD (fun _ => by decide) (pe_ixAD hr3.units (fun _ _ => rfl) (pe_varD (by rfl) (vis_of (by rfl)) (by rfl) (by rfl)) pe_intD) pa_nilD rfl) rfl))) pss_nilD) pss_nilD)
  · exact (ps_retD (by decide) (.inl rfl) (by exact ⟨⟨rfl, trivial⟩, ⟨⟨⟨rfl, trivial⟩, trivial⟩, ⟨⟨⟨rfl, trivial⟩, trivial⟩, trivial⟩⟩⟩) (pe_tupD (pa_consD (fun _ => by decide) (pe_tabD (by rfl) (by exact (kc.TURNS).choose_spec.1) (by rfl) (by exact (kc.TURNS).choose_spec.2) (pe_ixAD hr3.units (fun _ _ => rfl) (pe_varD (by rfl) (vis_of (by rfl)) (by rfl) (by rfl)) pe_intD) (fun _ _ => rfl)) (pa_consD (fun _ => by decide) (pe_callD (ih 11 _ _ F11) (by exact hr3) (by rfl) (by exact c.gl 11 (by decide)) (by exact F11.kp) (by exact bd_11 F11) (by exact takesD) (by exact (fun _ => rfl)) (by exact (.inl rfl)) (lenN len0) (pa_consD (fun _ => by decide) (pe_ixAD hr3.units (fun _ _ => rfl) (pe_varD (by rfl) (vis_of (by rfl)) (by rfl) (by rfl)) pe_intD) pa_nilD rfl) (by rfl) (by rfl) (by rfl)) (pa_consD (fun _ => by decide) (pe_callD (ih 11 _ _ F11) (by exact hr3) (by rfl) (by exact c.gl 11 (by decide)) (by exact F11.kp) (by exact bd_11 F11) (by exact takesD) (by exact (fun _ => rfl)) (by exact (.inl rfl)) (lenN len0) (pa_consD (fun _ => by decide) (pe_ixAD hr3.units (fun _ _ => rfl) (pe_varD (by rfl) (vis_of (by rfl)) (by rfl) (by rfl)) pe_intD) pa_nilD rfl) (by rfl) (by rfl) (by rfl)) pa_nilD rfl) rfl) rfl)))
theorem w_12 (c : CS K mg) (g : Gx C nc K G.gv) (ih : Good T P w K mg base G (k + 3) rn) (kc : Con K w mg) (gf : ∀ j, j < nd → G.gv.f j = some (V.ref (He.ga K (T.nm j)))) (lk : Addr → Prop) (cdv : Value) (A : Around) (outer : List Env) (s : Shared) (H : Hp) (E : XK) {f : Addr} (hlk0 : T.pu 12 = true ∨ ∀ a, ¬ lk a) (hr : Room (k + 5) (A.deeper (envOfC (T.nm 12) (defScope (T.st 12)) s.heap.objs.size f cdv))) :
    PSs (cxOf (L2.CX P w) P w K mg base (T.N 12) (T.nm 12) (defScope (T.st 12)) f cdv A outer s H E) (defBody (T.st 12)) (tS (G.L lk) (fun cls d _ H' => E cls d H') (T.pu 12) .z (b_12 rn) (md0 (T.N 12).length (T.ps 12).length) [.z]) := by
  obtain ⟨fd10, F10⟩ := c.df 10 (by decide)
  obtain ⟨fd11, F11⟩ := c.df 11 (by decide)
  have hN := nd_12
  have hr3 := hr.mono (j := k + 3) (by omega)
  have hu65 := hr3.units65
  have hq := g.hq
  refine pss_consD (m' := [.z]) ?_ (pss_consD (m' := [.z]) ?_ (pss_nilD))
  · exact (ps_exprD (by exact ⟨rfl, trivial⟩) (pe_callD (ih 10 _ _ F10) (by exact hr3) (by rfl) (by exact c.gl 10 (by decide)) (by exact F10.kp) (by exact bd_10 F10) (by exact takesD) (by exact (fun _ => rfl)) (by exact (.inl rfl)) (lenN len0) (pa_consD (fun _ => by decide) (pe_varD (by rfl) (vis_of (by rfl)) (by rfl) (by rfl)) pa_nilD rfl) (by rfl) (by rfl) (by rfl)) rfl)
  · exact (ps_retD (by decide) (.inl rfl) (by exact ⟨rfl, trivial⟩) (pe_callD (ih 11 _ _ F11) (by exact hr3) (by rfl) (by exact c.gl 11 (by decide)) (by exact F11.kp) (by exact bd_11 F11) (by exact takesD) (by exact (fun _ => rfl)) (by exact (.inl rfl)) (lenN len0) (pa_consD (fun _ => by decide) (pe_varD (by rfl) (vis_of (by rfl)) (by rfl) (by rfl)) pa_nilD rfl) (by rfl) (by rfl) (by rfl)))
theorem w_13 (c : CS K mg) (g : Gx C nc K G.gv) (ih : Good T P w K mg base G (k + 3) rn) (kc : Con K w mg) (gf : ∀ j, j < nd → G.gv.f j = some (V.ref (He.ga K (T.nm j)))) (lk : Addr → Prop) (cdv : Value) (A : Around) (outer : List Env) (s : Shared) (H : Hp) (E : XK) {f : Addr} (hlk0 : T.pu 13 = true ∨ ∀ a, ¬ lk a) (hr : Room (k + 5) (A.deeper (envOfC (T.nm 13) (defScope (T.st 13)) s.heap.objs.size f cdv))) :
    PSs (cxOf (L2.CX P w) P w K mg base (T.N 13) (T.nm 13) (defScope (T.st 13)) f cdv A outer s H E) (defBody (T.st 13)) (tS (G.L lk) (fun cls d _ H' => E cls d H') (T.pu 13) .z (b_13 rn) (md0 (T.N 13).length (T.ps 13).length) [.z]) := by
  obtain ⟨fd7, F7⟩ := c.df 7 (by decide)
  obtain ⟨fd13, F13⟩ := c.df 13 (by decide)
  have hN := nd_13
  have hr3 := hr.mono (j := k + 3) (by omega)
  have hu65 := hr3.units65
  have hq := g.hq
  refine pss_consD (m' := [.z]) ?_ (pss_consD (m' := [.z]) ?_ (pss_nilD))
  · exact (ps_ifD (by exact ⟨rfl, trivial⟩) (pt_valD (pe_callD (ih 7 _ _ F7) (by exact hr3) (by rfl) (by exact c.gl 7 (by decide)) (by exact F7.kp) (by exact bd_7 F7) (by exact takesD) (by exact (fun _ => rfl)) (by exact (.inl rfl)) (lenN len0) (pa_consD (fun _ => by decide) (pe_varD (by rfl) (vis_of (by rfl)) (by rfl) (by rfl)) pa_nilD rfl) (by rfl) (by rfl) (by rfl)) (fun _ => rfl)) (pss_consD (ps_retD (by decide) (.inl rfl) (by exact ⟨⟨⟨rfl, trivial⟩, ⟨⟨rfl, trivial⟩, trivial⟩⟩, trivial⟩) (pe_cellD (pe_lstD (pa_consD (fun _ => by decide) (pe_tupD (pa_consD (fun _ => by decide) (pe_ixAD hr3.units (fun _ _ => rfl) (pe_varD (by rfl) (vis_of (by rfl)) (by rfl) (by rfl)) pe_intD) (pa_consD (fun _ => by decide) (pe_ixAD hr3.units (fun _ _ => rfl) (pe_varD (by rfl) (vis_of (by rfl)) (by rfl) (by rfl)) pe_intD) pa_nilD rfl) rfl)) pa_nilD rfl)))) pss_nilD) pss_nilD)
  · exact (ps_retD (by decide) (.inl rfl) (by exact ⟨⟨⟨rfl, trivial⟩, trivial⟩, ⟨⟨rfl, trivial⟩, trivial⟩⟩) (pe_cellD (pe_catD (pe_callD (ih 13 _ _ F13) (by exact hr3) (by rfl) (by exact c.gl 13 (by decide)) (by exact F13.kp) (by exact bd_13 F13) (by exact takesD) (by exact (fun _ => rfl)) (by exact (.inl rfl)) (lenN len0) (pa_consD (fun _ => by decide) (pe_ixAD hr3.units (fun _ _ => rfl) (pe_varD (by rfl) (vis_of (by rfl)) (by rfl) (by rfl)) pe_intD) pa_nilD rfl) (by rfl) (by rfl) (by rfl)) (pe_callD (ih 13 _ _ F13) (by exact hr3) (by rfl) (by exact c.gl 13 (by decide)) (by exact F13.kp) (by exact bd_13 F13) (by exact takesD) (by exact (fun _ => rfl)) (by exact (.inl rfl)) (lenN len0) (pa_consD (fun _ => by decide) (pe_ixAD hr3.units (fun _ _ => rfl) (pe_varD (by rfl) (vis_of (by rfl)) (by rfl) (by rfl)) pe_intD) pa_nilD rfl) (by rfl) (by rfl) (by rfl)))))
theorem w_14 (c : CS K mg) (g : Gx C nc K G.gv) (ih : Good T P w K mg base G (k + 3) rn) (kc : Con K w mg) (gf : ∀ j, j < nd → G.gv.f j = some (V.ref (He.ga K (T.nm j)))) (lk : Addr → Prop) (cdv : Value) (A : Around) (outer : List Env) (s : Shared) (H : Hp) (E : XK) {f : Addr} (hlk0 : T.pu 14 = true ∨ ∀ a, ¬ lk a) (hr : Room (k + 5) (A.deeper (envOfC (T.nm 14) (defScope (T.st 14)) s.heap.objs.size f cdv))) :
    PSs (cxOf (L2.CX P w) P w K mg base (T.N 14) (T.nm 14) (defScope (T.st 14)) f cdv A outer s H E) (defBody (T.st 14)) (tS (G.L lk) (fun cls d _ H' => E cls d H') (T.pu 14) .z (b_14 rn) (md0 (T.N 14).length (T.ps 14).length) [.z]) := by
  obtain ⟨fd10, F10⟩ := c.df 10 (by decide)
  obtain ⟨fd13, F13⟩ := c.df 13 (by decide)
  have hN := nd_14
  have hr3 := hr.mono (j := k + 3) (by omega)
  have hu65 := hr3.units65
  have hq := g.hq
  refine pss_consD (m' := [.z]) ?_ (pss_consD (m' := [.z]) ?_ (pss_nilD))
  · exact (ps_exprD (by exact ⟨rfl, trivial⟩) (pe_callD (ih 10 _ _ F10) (by exact hr3) (by rfl) (by exact c.gl 10 (by decide)) (by exact F10.kp) (by exact bd_10 F10) (by exact takesD) (by exact (fun _ => rfl)) (by exact (.inl rfl)) (lenN len0) (pa_consD (fun _ => by decide) (pe_varD (by rfl) (vis_of (by rfl)) (by rfl) (by rfl)) pa_nilD rfl) (by rfl) (by rfl) (by rfl)) rfl)
  · exact (ps_retD (by decide) (.inl rfl) (by exact ⟨rfl, trivial⟩) (pe_callD (ih 13 _ _ F13) (by exact hr3) (by rfl) (by exact c.gl 13 (by decide)) (by exact F13.kp) (by exact bd_13 F13) (by exact takesD) (by exact (fun _ => rfl)) (by exact (.inl rfl)) (lenN len0) (pa_consD (fun _ => by decide) (pe_varD (by rfl) (vis_of (by rfl)) (by rfl) (by rfl)) pa_nilD rfl) (by rfl) (by rfl) (by rfl)))
theorem w_15 (c : CS K mg) (g : Gx C nc K G.gv) (ih : Good T P w K mg base G (k + 3) rn) (kc : Con K w mg) (gf : ∀ j, j < nd → G.gv.f j = some (V.ref (He.ga K (T.nm j)))) (lk : Addr → Prop) (cdv : Value) (A : Around) (outer : List Env) (s : Shared) (H : Hp) (E : XK) {f : Addr} (hlk0 : T.pu 15 = true ∨ ∀ a, ¬ lk a) (hr : Room (k + 5) (A.deeper (envOfC (T.nm 15) (defScope (T.st 15)) s.heap.objs.size f cdv))) :
    PSs (cxOf (L2.CX P w) P w K mg base (T.N 15) (T.nm 15) (defScope (T.st 15)) f cdv A outer s H E) (defBody (T.st 15)) (tS (G.L lk) (fun cls d _ H' => E cls d H') (T.pu 15) .z (b_15 rn) (md0 (T.N 15).length (T.ps 15).length) [.z]) := by
  obtain ⟨fd10, F10⟩ := c.df 10 (by decide)
  obtain ⟨fd13, F13⟩ := c.df 13 (by decide)
  have hN := nd_15
  have hr3 := hr.mono (j := k + 3) (by omega)
  have hu65 := hr3.units65
  have hq := g.hq
  refine pss_consD (m' := [.z]) ?_ (pss_consD (m' := [.z]) ?_ (pss_nilD))
  · exact (ps_exprD (by exact ⟨rfl, trivial⟩) (pe_callD (ih 10 _ _ F10) (by exact hr3) (by rfl) (by exact c.gl 10 (by decide)) (by exact F10.kp) (by exact bd_10 F10) (by exact takesD) (by exact (fun _ => rfl)) (by exact (.inl rfl)) (lenN len0) (pa_consD (fun _ => by decide) (pe_varD (by rfl) (vis_of (by rfl)) (by rfl) (by rfl)) pa_nilD rfl) (by rfl) (by rfl) (by rfl)) rfl)
  · exact (ps_retD (by decide) (.inl rfl) (by exact ⟨⟨rfl, trivial⟩, trivial⟩) (pe_lenD (by rfl) (by exact c.fr _ m_len) (pa_consD (st := false) (fun h => by cases h) (pe_callD (ih 13 _ _ F13) (by exact hr3) (by rfl) (by exact c.gl 13 (by decide)) (by exact F13.kp) (by exact bd_13 F13) (by exact takesD) (by exact (fun _ => rfl)) (by exact (.inl rfl)) (lenN len0) (pa_consD (fun _ => by decide) (pe_varD (by rfl) (vis_of (by rfl)) (by rfl) (by rfl)) pa_nilD rfl) (by rfl) (by rfl) (by rfl)) (pa_nilD (st := false)) rfl) rfl rfl))
theorem w_16 (c : CS K mg) (g : Gx C nc K G.gv) (ih : Good T P w K mg base G (k + 3) rn) (kc : Con K w mg) (gf : ∀ j, j < nd → G.gv.f j = some (V.ref (He.ga K (T.nm j)))) (lk : Addr → Prop) (cdv : Value) (A : Around) (outer : List Env) (s : Shared) (H : Hp) (E : XK) {f : Addr} (hlk0 : T.pu 16 = true ∨ ∀ a, ¬ lk a) (hr : Room (k + 5) (A.deeper (envOfC (T.nm 16) (defScope (T.st 16)) s.heap.objs.size f cdv))) :
    PSs (cxOf (L2.CX P w) P w K mg base (T.N 16) (T.nm 16) (defScope (T.st 16)) f cdv A outer s H E) (defBody (T.st 16)) (tS (G.L lk) (fun cls d _ H' => E cls d H') (T.pu 16) .z (b_16 rn) (md0 (T.N 16).length (T.ps 16).length) [.z]) := by
  obtain ⟨fd7, F7⟩ := c.df 7 (by decide)
  obtain ⟨fd16, F16⟩ := c.df 16 (by decide)
  have hN := nd_16
  have hr3 := hr.mono (j := k + 3) (by omega)
  have hu65 := hr3.units65
  have hq := g.hq
  refine pss_consD (m' := [.z]) ?_ (pss_nilD)
  · exact (ps_retD (by decide) (.inl rfl) (by exact ⟨⟨rfl, trivial⟩, trivial, ⟨trivial, ⟨⟨⟨rfl, trivial⟩, trivial⟩, ⟨⟨⟨rfl, trivial⟩, trivial⟩, trivial⟩⟩⟩⟩) (pe_ifD (pt_valD (pe_callD (ih 7 _ _ F7) (by exact hr3) (by rfl) (by exact c.gl 7 (by decide)) (by exact F7.kp) (by exact bd_7 F7) (by exact takesD) (by exact (fun _ => rfl)) (by exact (.inl rfl)) (lenN len0) (pa_consD (fun _ => by decide) (pe_varD (by rfl) (vis_of (by rfl)) (by rfl) (by rfl)) pa_nilD rfl) (by rfl) (by rfl) (by rfl)) (fun _ => rfl)) pe_intD (pe_addD pe_intD (pe_max2D rfl (by rfl) (by exact c.fr _ m_max) (pa_consD (st := false) (fun h => by cases h) (pe_callD (ih 16 _ _ F16) (by exact hr3) (by rfl) (by exact c.gl 16 (by decide)) (by exact F16.kp) (by exact bd_16 F16) (by exact takesD) (by exact (fun _ => rfl)) (by exact (.inl rfl)) (lenN len0) (pa_consD (fun _ => by decide) (pe_ixAD hr3.units (fun _ _ => rfl) (pe_varD (by rfl) (vis_of (by rfl)) (by rfl) (by rfl)) pe_intD) pa_nilD rfl) (by rfl) (by rfl) (by rfl)) (pa_consD (st := false) (fun h => by cases h) (pe_callD (ih 16 _ _ F16) (by exact hr3) (by rfl) (by exact c.gl 16 (by decide)) (by exact F16.kp) (by exact bd_16 F16) (by exact takesD) (by exact (fun _ => rfl)) (by exact (.inl rfl)) (lenN len0) (pa_consD (fun _ => by decide) (pe_ixAD hr3.units (fun _ _ => rfl) (pe_varD (by rfl) (vis_of (by rfl)) (by rfl) (by rfl)) pe_intD) pa_nilD rfl) (by rfl) (by rfl) (by rfl)) (pa_nilD (st := false)) rfl) rfl) rfl rfl))))
theorem w_17 (c : CS K mg) (g : Gx C nc K G.gv) (ih : Good T P w K mg base G (k + 3) rn) (kc : Con K w mg) (gf : ∀ j, j < nd → G.gv.f j = some (V.ref (He.ga K (T.nm j)))) (lk : Addr → Prop) (cdv : Value) (A : Around) (outer : List Env) (s : Shared) (H : Hp) (E : XK) {f : Addr} (hlk0 : T.pu 17 = true ∨ ∀ a, ¬ lk a) (hr : Room (k + 5) (A.deeper (envOfC (T.nm 17) (defScope (T.st 17)) s.heap.objs.size f cdv))) :
    PSs (cxOf (L2.CX P w) P w K mg base (T.N 17) (T.nm 17) (defScope (T.st 17)) f cdv A outer s H E) (defBody (T.st 17)) (tS (G.L lk) (fun cls d _ H' => E cls d H') (T.pu 17) .z (b_17 rn) (md0 (T.N 17).length (T.ps 17).length) [.z]) := by
  obtain ⟨fd10, F10⟩ := c.df 10 (by decide)
  obtain ⟨fd16, F16⟩ := c.df 16 (by decide)
  have hN := nd_17
  have hr3 := hr.mono (j := k + 3) (by omega)
  have hu65 := hr3.units65
  have hq := g.hq
  refine pss_consD (m' := [.z]) ?_ (pss_consD (m' := [.z]) ?_ (pss_nilD))
  · exact (ps_exprD (by exact ⟨rfl, trivial⟩) (pe_callD (ih 10 _ _ F10) (by exact hr3) (by rfl) (by exact c.gl 10 (by decide)) (by exact F10.kp) (by exact bd_10 F10) (by exact takesD) (by exact (fun _ => rfl)) (by exact (.inl rfl)) (lenN len0) (pa_consD (fun _ => by decide) (pe_varD (by rfl) (vis_of (by rfl)) (by rfl) (by rfl)) pa_nilD rfl) (by rfl) (by rfl) (by rfl)) rfl)
  · exact (ps_retD (by decide) (.inl rfl) (by exact ⟨rfl, trivial⟩) (pe_callD (ih 16 _ _ F16) (by exact hr3) (by rfl) (by exact c.gl 16 (by decide)) (by exact F16.kp) (by exact bd_16 F16) (by exact takesD) (by exact (fun _ => rfl)) (by exact (.inl rfl)) (lenN len0) (pa_consD (fun _ => by decide) (pe_varD (by rfl) (vis_of (by rfl)) (by rfl) (by rfl)) pa_nilD rfl) (by rfl) (by rfl) (by rfl)))
theorem w_18 (c : CS K mg) (g : Gx C nc K G.gv) (ih : Good T P w K mg base G (k + 3) rn) (kc : Con K w mg) (gf : ∀ j, j < nd → G.gv.f j = some (V.ref (He.ga K (T.nm j)))) (lk : Addr → Prop) (cdv : Value) (A : Around) (outer : List Env) (s : Shared) (H : Hp) (E : XK) {f : Addr} (hlk0 : T.pu 18 = true ∨ ∀ a, ¬ lk a) (hr : Room (k + 5) (A.deeper (envOfC (T.nm 18) (defScope (T.st 18)) s.heap.objs.size f cdv))) :
    PSs (cxOf (L2.CX P w) P w K mg base (T.N 18) (T.nm 18) (defScope (T.st 18)) f cdv A outer s H E) (defBody (T.st 18)) (tS (G.L lk) (fun cls d _ H' => E cls d H') (T.pu 18) .z (b_18 rn) (md0 (T.N 18).length (T.ps 18).length) [.z, .x, .x]) := by
  obtain ⟨fd10, F10⟩ := c.df 10 (by decide)
  obtain ⟨fd13, F13⟩ := c.df 13 (by decide)
  have hN := nd_18
  have hr3 := hr.mono (j := k + 3) (by omega)
  have hu65 := hr3.units65
  have hq := g.hq
  refine pss_consD (m' := [.z, .x, .x]) ?_ (pss_consD (m' := [.z, .x, .x]) ?_ (pss_nilD))
  · exact (ps_exprD (by exact ⟨rfl, trivial⟩) (pe_callD (ih 10 _ _ F10) (by exact hr3) (by rfl) (by exact c.gl 10 (by decide)) (by exact F10.kp) (by exact bd_10 F10) (by exact takesD) (by exact (fun _ => rfl)) (by exact (.inl rfl)) (lenN len0) (pa_consD (fun _ => by decide) (pe_varD (by rfl) (vis_of (by rfl)) (by rfl) (by rfl)) pa_nilD rfl) (by rfl) (by rfl) (by rfl)) rfl)
  · exact (ps_retD (by decide) (.inl rfl) (by exact ⟨⟨⟨rfl, trivial⟩, rfl, trivial⟩, trivial⟩) (pe_cellD (pe_listD rfl hq (by rfl) (by exact c.fr _ m_list) (pa_consD (st := false) (fun h => by cases h) (pe_dcD (own := [("sign", 1), ("word", 2)]) (t := (.tup [1, 2])) rfl hN (blkOk_by rfl) (by decide) (by decide) (pi_seqP (pe_callD (ih 13 _ _ F13) (by exact hr3) (by rfl) (by exact c.gl 13 (by decide)) (by exact F13.kp) (by exact bd_13 F13) (by exact takesD) (by exact (fun _ => rfl)) (by exact (.inl rfl)) (lenN len0) (pa_consD (fun _ => by decide) (pe_varD (by rfl) (vis_of (by rfl)) (by rfl) (by rfl)) pa_nilD rfl) (by rfl) (by rfl) (by rfl))) (fun _ _ _ _ _ => (.tup (.cons ⟨_, _, rfl, nameOk_of rfl rfl⟩ (.cons ⟨_, _, rfl, nameOk_of rfl rfl⟩ .nil)))) (fun _ _ _ _ _ => (pe_varD (by rfl) (vis_of (by rfl)) (by rfl) (by rfl))) (fun _ _ _ _ _ => pe_boolD) (fun _ => rfl)) (pa_nilD (st := false)) rfl) rfl rfl)))
theorem w_19 (c : CS K mg) (g : Gx C nc K G.gv) (ih : Good T P w K mg base G (k + 3) rn) (kc : Con K w mg) (gf : ∀ j, j < nd → G.gv.f j = some (V.ref (He.ga K (T.nm j)))) (lk : Addr → Prop) (cdv : Value) (A : Around) (outer : List Env) (s : Shared) (H : Hp) (E : XK) {f : Addr} (hlk0 : T.pu 19 = true ∨ ∀ a, ¬ lk a) (hr : Room (k + 5) (A.deeper (envOfC (T.nm 19) (defScope (T.st 19)) s.heap.objs.size f cdv))) :
    PSs (cxOf (L2.CX P w) P w K mg base (T.N 19) (T.nm 19) (defScope (T.st 19)) f cdv A outer s H E) (defBody (T.st 19)) (tS (G.L lk) (fun cls d _ H' => E cls d H') (T.pu 19) .z (b_19 rn) (md0 (T.N 19).length (T.ps 19).length) [.z, .x]) := by
  obtain ⟨fd7, F7⟩ := c.df 7 (by decide)
  obtain ⟨fd19, F19⟩ := c.df 19 (by decide)
  have hN := nd_19
  have hr3 := hr.mono (j := k + 3) (by omega)
  have hu65 := hr3.units65
  have hq := g.hq
  refine pss_consD (m' := [.z, .x]) ?_ (pss_consD (m' := [.z, .x]) ?_ (pss_nilD))
  · exact (ps_ifD (by exact ⟨rfl, trivial⟩) (pt_valD (pe_callD (ih 7 _ _ F7) (by exact hr3) (by rfl) (by exact c.gl 7 (by decide)) (by exact F7.kp) (by exact bd_7 F7) (by exact takesD) (by exact (fun _ => rfl)) (by exact (.inl rfl)) (lenN len0) (pa_consD (fun _ => by decide) (pe_varD (by rfl) (vis_of (by rfl)) (by rfl) (by rfl)) pa_nilD rfl) (by rfl) (by rfl) (by rfl)) (fun _ => rfl)) (pss_consD (ps_retD (by decide) (.inl rfl) (by exact ⟨trivial, trivial⟩) (pe_cellD (pe_lstD (pa_consD (fun _ => by decide) (pe_cellD (pe_lstD pa_nilD)) pa_nilD rfl)))) pss_nilD) pss_nilD)
  · exact (ps_retD (by decide) (.inl rfl) (by exact ⟨⟨⟨trivial, trivial⟩, ⟨⟨⟨rfl, trivial⟩, trivial⟩, trivial, ⟨⟨trivial, trivial⟩, rfl⟩⟩⟩, ⟨⟨⟨rfl, trivial⟩, trivial⟩, trivial, ⟨⟨trivial, trivial⟩, rfl⟩⟩⟩) (pe_cellD (pe_catD (pe_catD (pe_lstD (pa_consD (fun _ => by decide) (pe_cellD (pe_lstD pa_nilD)) pa_nilD rfl)) (pe_lcD (own := [("place", 1)]) (t := (.one 1)) rfl hN (blkOk_by rfl) (by decide) (by decide) (pi_seqP (pe_callD (ih 19 _ _ F19) (by exact hr3) (by rfl) (by exact c.gl 19 (by decide)) (by exact F19.kp) (by exact bd_19 F19) (by exact takesD) (by exact (fun _ => rfl)) (by exact (.inl rfl)) (lenN len0) (pa_consD (fun _ => by decide) (pe_ixAD hr3.units (fun _ _ => rfl) (pe_varD (by rfl) (vis_of (by rfl)) (by rfl) (by rfl)) pe_intD) pa_nilD rfl) (by rfl) (by rfl) (by rfl))) (fun _ _ _ _ _ => (.one (nameOk_of rfl rfl))) (fun _ _ _ _ _ => pts_nilD) (fun _ _ _ _ _ => (pe_cellD (pe_catD (pe_lstD (pa_consD (fun _ => by decide) pe_intD pa_nilD rfl)) (pe_varD (by rfl) (vis_of (by rfl)) (by rfl) (by rfl))))) (fun _ => rfl))) (pe_lcD (own := [("place", 1)]) (t := (.one 1)) rfl hN (blkOk_by rfl) (by decide) (by decide) (pi_seqP (pe_callD (ih 19 _ _ F19) (by exact hr3) (by rfl) (by exact c.gl 19 (by decide)) (by exact F19.kp) (by exact bd_19 F19) (by exact takesD) (by exact (fun _ => rfl)) (by exact (.inl rfl)) (lenN len0) (pa_consD (fun _ => by decide) (pe_ixAD hr3.units (fun _ _ => rfl) (pe_varD (by rfl) (vis_of (by rfl)) (by rfl) (by rfl)) pe_intD) pa_nilD rfl) (by rfl) (by rfl) (by rfl))) (fun _ _ _ _ _ => (.one (nameOk_of rfl rfl))) (fun _ _ _ _ _ => pts_nilD) (fun _ _ _ _ _ => (pe_cellD (pe_catD (pe_lstD (pa_consD (fun _ => by decide) pe_intD pa_nilD rfl)) (pe_varD (by rfl) (vis_of (by rfl)) (by rfl) (by rfl))))) (fun _ => rfl)))))
theorem w_20 (c : CS K mg) (g : Gx C nc K G.gv) (ih : Good T P w K mg base G (k + 3) rn) (kc : Con K w mg) (gf : ∀ j, j < nd → G.gv.f j = some (V.ref (He.ga K (T.nm j)))) (lk : Addr → Prop) (cdv : Value) (A : Around) (outer : List Env) (s : Shared) (H : Hp) (E : XK) {f : Addr} (hlk0 : T.pu 20 = true ∨ ∀ a, ¬ lk a) (hr : Room (k + 5) (A.deeper (envOfC (T.nm 20) (defScope (T.st 20)) s.heap.objs.size f cdv))) :
    PSs (cxOf (L2.CX P w) P w K mg base (T.N 20) (T.nm 20) (defScope (T.st 20)) f cdv A outer s H E) (defBody (T.st 20)) (tS (G.L lk) (fun cls d _ H' => E cls d H') (T.pu 20) .z (b_20 rn) (md0 (T.N 20).length (T.ps 20).length) [.z]) := by
  obtain ⟨fd10, F10⟩ := c.df 10 (by decide)
  obtain ⟨fd19, F19⟩ := c.df 19 (by decide)
  have hN := nd_20
  have hr3 := hr.mono (j := k + 3) (by omega)
  have hu65 := hr3.units65
  have hq := g.hq
  refine pss_consD (m' := [.z]) ?_ (pss_consD (m' := [.z]) ?_ (pss_nilD))
  · exact (ps_exprD (by exact ⟨rfl, trivial⟩) (pe_callD (ih 10 _ _ F10) (by exact hr3) (by rfl) (by exact c.gl 10 (by decide)) (by exact F10.kp) (by exact bd_10 F10) (by exact takesD) (by exact (fun _ => rfl)) (by exact (.inl rfl)) (lenN len0) (pa_consD (fun _ => by decide) (pe_varD (by rfl) (vis_of (by rfl)) (by rfl) (by rfl)) pa_nilD rfl) (by rfl) (by rfl) (by rfl)) rfl)
  · exact (ps_retD (by decide) (.inl rfl) (by exact ⟨rfl, trivial⟩) (pe_callD (ih 19 _ _ F19) (by exact hr3) (by rfl) (by exact c.gl 19 (by decide)) (by exact F19.kp) (by exact bd_19 F19) (by exact takesD) (by exact (fun _ => rfl)) (by exact (.inl rfl)) (lenN len0) (pa_consD (fun _ => by decide) (pe_varD (by rfl) (vis_of (by rfl)) (by rfl) (by rfl)) pa_nilD rfl) (by rfl) (by rfl) (by rfl)))
theorem w_21 (c : CS K mg) (g : Gx C nc K G.gv) (ih : Good T P w K mg base G (k + 3) rn) (kc : Con K w mg) (gf : ∀ j, j < nd → G.gv.f j = some (V.ref (He.ga K (T.nm j)))) (lk : Addr → Prop) (cdv : Value) (A : Around) (outer : List Env) (s : Shared) (H : Hp) (E : XK) {f : Addr} (hlk0 : T.pu 21 = true ∨ ∀ a, ¬ lk a) (hr : Room (k + 5) (A.deeper (envOfC (T.nm 21) (defScope (T.st 21)) s.heap.objs.size f cdv))) :
    PSs (cxOf (L2.CX P w) P w K mg base (T.N 21) (T.nm 21) (defScope (T.st 21)) f cdv A outer s H E) (defBody (T.st 21)) (tS (G.L lk) (fun cls d _ H' => E cls d H') (T.pu 21) .z (b_21 rn) (md0 (T.N 21).length (T.ps 21).length) [.z, .z, .x]) := by
  obtain ⟨fd1, F1⟩ := c.df 1 (by decide)
  obtain ⟨fd2, F2⟩ := c.df 2 (by decide)
  obtain ⟨fd7, F7⟩ := c.df 7 (by decide)
  have hN := nd_21
  have hr3 := hr.mono (j := k + 3) (by omega)
  have hu65 := hr3.units65
  have hq := g.hq
  refine pss_consD (m' := [.z, .z, .x]) ?_ (pss_consD (m' := [.z, .z, .x]) ?_ (pss_consD (m' := [.z, .z, .x]) ?_ (pss_nilD)))
  · exact (ps_ifD (by exact ⟨rfl, trivial⟩) (pt_notD (pt_valD (pe_callD (ih 2 _ _ F2) (by exact hr3) (by rfl) (by exact c.gl 2 (by decide)) (by exact F2.kp) (by exact bd_2 F2) (by exact takesD) (by exact (fun _ => rfl)) (by exact (.inl rfl)) (lenN len0) (pa_consD (fun _ => by decide) (pe_varD (by rfl) (vis_of (by rfl)) (by rfl) (by rfl)) pa_nilD rfl) (by rfl) (by rfl) (by rfl)) (fun _ => rfl))) (pss_consD (ps_retD (by decide) (.inl rfl) (by exact trivial) pe_boolD) pss_nilD) pss_nilD)
  · exact (ps_forD (t := (.one 2)) ownD rfl hN (.one (nameOk_of rfl rfl)) (by exact rfl) (by rfl) (pi_seqP (pe_varD (by rfl) (vis_of (by rfl)) (by rfl) (by rfl))) (pss_consD (ps_ifD (by exact ⟨⟨rfl, trivial⟩, ⟨⟨rfl, trivial⟩, ⟨rfl, trivial⟩⟩⟩) (PW.pt (pw_orD (pt_valD (pe_callD (ih 7 _ _ F7) (by exact hr3) (by rfl) (by exact c.gl 7 (by decide)) (by exact F7.kp) (by exact bd_7 F7) (by exact takesD) (by exact (fun _ => rfl)) (by exact (.inl rfl)) (lenN len0) (pa_consD (fun _ => by decide) (pe_varD (by rfl) (vis_of (by rfl)) (by rfl) (by rfl)) pa_nilD rfl) (by rfl) (by rfl) (by rfl)) (fun _ => rfl)) (pw_orD (pt_notD (pt_valD (pe_callD (ih 1 _ _ F1) (by exact hr3) (by rfl) (by exact c.gl 1 (by decide)) (by exact F1.kp) (by exact bd_1 F1) (by exact takesD) (by exact (fun _ => rfl)) (by exact (.inl rfl)) (lenN len0) (pa_consD (fun _ => by decide) (pe_varD (by rfl) (vis_of (by rfl)) (by rfl) (by rfl)) pa_nilD rfl) (by rfl) (by rfl) (by rfl)) (fun _ => rfl))) (pw_or1D (pt_gtD (pe_varD (by rfl) (vis_of (by rfl)) (by rfl) (by rfl)) pe_intD))))) (pss_consD (ps_retD (by decide) (.inl rfl) (by exact trivial) pe_boolD) pss_nilD) pss_nilD) (pss_consD (ps_setD (k := .z) hN (nameOk_of rfl rfl) (by decide) (by exact ⟨rfl, ⟨trivial, rfl⟩⟩) (by decide) (pe_ixAD hr3.units (fun _ _ => rfl) (pe_varD (by rfl) (vis_of (by rfl)) (by rfl) (by rfl)) (pe_addD pe_intD (pe_varD (by rfl) (vis_of (by rfl)) (by rfl) (by rfl)))) rfl) pss_nilD)) (fun _ => rfl))
  · exact (ps_retD (by decide) (.inl rfl) (by exact trivial) pe_boolD)
theorem w_22 (c : CS K mg) (g : Gx C nc K G.gv) (ih : Good T P w K mg base G (k + 3) rn) (kc : Con K w mg) (gf : ∀ j, j < nd → G.gv.f j = some (V.ref (He.ga K (T.nm j)))) (lk : Addr → Prop) (cdv : Value) (A : Around) (outer : List Env) (s : Shared) (H : Hp) (E : XK) {f : Addr} (hlk0 : T.pu 22 = true ∨ ∀ a, ¬ lk a) (hr : Room (k + 5) (A.deeper (envOfC (T.nm 22) (defScope (T.st 22)) s.heap.objs.size f cdv))) :
    PSs (cxOf (L2.CX P w) P w K mg base (T.N 22) (T.nm 22) (defScope (T.st 22)) f cdv A outer s H E) (defBody (T.st 22)) (tS (G.L lk) (fun cls d _ H' => E cls d H') (T.pu 22) .z (b_22 rn) (md0 (T.N 22).length (T.ps 22).length) [.z, .z, .x]) := by
  have hN := nd_22
  have hr3 := hr.mono (j := k + 3) (by omega)
  have hu65 := hr3.units65
  have hq := g.hq
  refine pss_consD (m' := [.z, .z, .x]) ?_ (pss_consD (m' := [.z, .z, .x]) ?_ (pss_nilD))
  · exact (ps_forD (t := (.one 2)) ownD rfl hN (.one (nameOk_of rfl rfl)) (by exact rfl) (by rfl) (pi_seqP (pe_varD (by rfl) (vis_of (by rfl)) (by rfl) (by rfl))) (pss_consD (ps_setD (k := .z) hN (nameOk_of rfl rfl) (by decide) (by exact ⟨rfl, ⟨trivial, rfl⟩⟩) (by decide) (pe_ixAD hr3.units (fun _ _ => rfl) (pe_varD (by rfl) (vis_of (by rfl)) (by rfl) (by rfl)) (pe_addD pe_intD (pe_varD (by rfl) (vis_of (by rfl)) (by rfl) (by rfl)))) rfl) pss_nilD) (fun _ => rfl))
  · exact (ps_retD (by decide) (.inl rfl) (by exact rfl) (pe_varD (by rfl) (vis_of (by rfl)) (by rfl) (by rfl)))
theorem w_23 (c : CS K mg) (g : Gx C nc K G.gv) (ih : Good T P w K mg base G (k + 3) rn) (kc : Con K w mg) (gf : ∀ j, j < nd → G.gv.f j = some (V.ref (He.ga K (T.nm j)))) (lk : Addr → Prop) (cdv : Value) (A : Around) (outer : List Env) (s : Shared) (H : Hp) (E : XK) {f : Addr} (hlk0 : T.pu 23 = true ∨ ∀ a, ¬ lk a) (hr : Room (k + 5) (A.deeper (envOfC (T.nm 23) (defScope (T.st 23)) s.heap.objs.size f cdv))) :
    PSs (cxOf (L2.CX P w) P w K mg base (T.N 23) (T.nm 23) (defScope (T.st 23)) f cdv A outer s H E) (defBody (T.st 23)) (tS (G.L lk) (fun cls d _ H' => E cls d H') (T.pu 23) .z (b_23 rn) (md0 (T.N 23).length (T.ps 23).length) [.z, .z]) := by
  obtain ⟨fd10, F10⟩ := c.df 10 (by decide)
  obtain ⟨fd21, F21⟩ := c.df 21 (by decide)
  have hN := nd_23
  have hr3 := hr.mono (j := k + 3) (by omega)
  have hu65 := hr3.units65
  have hr1 := hr.mono (j := 2) (by omega)
  have hq := g.hq
  obtain ⟨ox3, in3, ti3, nf3⟩ := c.oex (j := 3) (f := "place") (by decide) rfl
  obtain ⟨fc3, D3⟩ := c.ci 3 (by decide) (by decide)
  refine pss_consD (m' := [.z, .z]) ?_ (pss_consD (m' := [.z, .z]) ?_ (pss_nilD))
  · exact (ps_exprD (by exact ⟨rfl, trivial⟩) (pe_callD (ih 10 _ _ F10) (by exact hr3) (by rfl) (by exact c.gl 10 (by decide)) (by exact F10.kp) (by exact bd_10 F10) (by exact takesD) (by exact (fun _ => rfl)) (by exact (.inl rfl)) (lenN len0) (pa_consD (fun _ => by decide) (pe_varD (by rfl) (vis_of (by rfl)) (by rfl) (by rfl)) pa_nilD rfl) (by rfl) (by rfl) (by rfl)) rfl)
  · exact (ps_ifD (by exact ⟨rfl, ⟨rfl, trivial⟩⟩) (pt_notD (pt_valD (pe_callD (ih 21 _ _ F21) (by exact hr3) (by rfl) (by exact c.gl 21 (by decide)) (by exact F21.kp) (by exact bd_21 F21) (by exact takesD) (by exact (fun _ => rfl)) (by exact (.inl rfl)) (lenN (lenN len0)) (pa_consD (fun _ => by decide) (pe_varD (by rfl) (vis_of (by rfl)) (by rfl) (by rfl)) (pa_consD (fun _ => by decide) (pe_varD (by rfl) (vis_of (by rfl)) (by rfl) (by rfl)) pa_nilD rfl) rfl) (by rfl) (by rfl) (by rfl)) (fun _ => rfl))) (pss_consD (ps_raiseD rfl (by exact takesD) ox3 in3 ti3 (okI_3 D3) (by exact hr1) (bi_3 D3) nf3 (by rfl) (by exact c.cg 3 (by decide)) (by exact (g.x 3).trans (if_pos (by decide))) (by exact rfl) (pe_varD (by rfl) (vis_of (by rfl)) (by rfl) (by rfl)) rfl rfl) pss_nilD) pss_nilD)
theorem w_24 (c : CS K mg) (g : Gx C nc K G.gv) (ih : Good T P w K mg base G (k + 3) rn) (kc : Con K w mg) (gf : ∀ j, j < nd → G.gv.f j = some (V.ref (He.ga K (T.nm j)))) (lk : Addr → Prop) (cdv : Value) (A : Around) (outer : List Env) (s : Shared) (H : Hp) (E : XK) {f : Addr} (hlk0 : T.pu 24 = true ∨ ∀ a, ¬ lk a) (hr : Room (k + 5) (A.deeper (envOfC (T.nm 24) (defScope (T.st 24)) s.heap.objs.size f cdv))) :
    PSs (cxOf (L2.CX P w) P w K mg base (T.N 24) (T.nm 24) (defScope (T.st 24)) f cdv A outer s H E) (defBody (T.st 24)) (tS (G.L lk) (fun cls d _ H' => E cls d H') (T.pu 24) .z (b_24 rn) (md0 (T.N 24).length (T.ps 24).length) [.z, .z]) := by
  obtain ⟨fd9, F9⟩ := c.df 9 (by decide)
  obtain ⟨fd22, F22⟩ := c.df 22 (by decide)
  obtain ⟨fd23, F23⟩ := c.df 23 (by decide)
  have hN := nd_24
  have hr3 := hr.mono (j := k + 3) (by omega)
  have hu65 := hr3.units65
  have hq := g.hq
  refine pss_consD (m' := [.z, .z]) ?_ (pss_consD (m' := [.z, .z]) ?_ (pss_nilD))
  · exact (ps_exprD (by exact ⟨rfl, ⟨rfl, trivial⟩⟩) (pe_callD (ih 23 _ _ F23) (by exact hr3) (by rfl) (by exact c.gl 23 (by decide)) (by exact F23.kp) (by exact bd_23 F23) (by exact takesD) (by exact (fun _ => rfl)) (by exact (.inl rfl)) (lenN (lenN len0)) (pa_consD (fun _ => by decide) (pe_varD (by rfl) (vis_of (by rfl)) (by rfl) (by rfl)) (pa_consD (fun _ => by decide) (pe_varD (by rfl) (vis_of (by rfl)) (by rfl) (by rfl)) pa_nilD rfl) rfl) (by rfl) (by rfl) (by rfl)) rfl)
  · exact (ps_retD (by decide) (.inl rfl) (by exact ⟨⟨rfl, ⟨rfl, trivial⟩⟩, trivial⟩) (pe_callD (ih 9 _ _ F9) (by exact hr3) (by rfl) (by exact c.gl 9 (by decide)) (by exact F9.kp) (by exact bd_9 F9) (by exact takesD) (by exact (fun _ => rfl)) (by exact (.inl rfl)) (lenN len0) (pa_consD (fun _ => by decide) (pe_callD (ih 22 _ _ F22) (by exact hr3) (by rfl) (by exact c.gl 22 (by decide)) (by exact F22.kp) (by exact bd_22 F22) (by exact takesD) (by exact (fun _ => rfl)) (by exact (.inl rfl)) (lenN (lenN len0)) (pa_consD (fun _ => by decide) (pe_varD (by rfl) (vis_of (by rfl)) (by rfl) (by rfl)) (pa_consD (fun _ => by decide) (pe_varD (by rfl) (vis_of (by rfl)) (by rfl) (by rfl)) pa_nilD rfl) rfl) (by rfl) (by rfl) (by rfl)) pa_nilD rfl) (by rfl) (by rfl) (by rfl)))
theorem w_25 (c : CS K mg) (g : Gx C nc K G.gv) (ih : Good T P w K mg base G (k + 3) rn) (kc : Con K w mg) (gf : ∀ j, j < nd → G.gv.f j = some (V.ref (He.ga K (T.nm j)))) (lk : Addr → Prop) (cdv : Value) (A : Around) (outer : List Env) (s : Shared) (H : Hp) (E : XK) {f : Addr} (hlk0 : T.pu 25 = true ∨ ∀ a, ¬ lk a) (hr : Room (k + 5) (A.deeper (envOfC (T.nm 25) (defScope (T.st 25)) s.heap.objs.size f cdv))) :
    PSs (cxOf (L2.CX P w) P w K mg base (T.N 25) (T.nm 25) (defScope (T.st 25)) f cdv A outer s H E) (defBody (T.st 25)) (tS (G.L lk) (fun cls d _ H' => E cls d H') (T.pu 25) .z (b_25 rn) (md0 (T.N 25).length (T.ps 25).length) [.z, .z, .z, .o]) := by
  obtain ⟨fd9, F9⟩ := c.df 9 (by decide)
  obtain ⟨fd25, F25⟩ := c.df 25 (by decide)
  have hN := nd_25
  have hr3 := hr.mono (j := k + 3) (by omega)
  have hu65 := hr3.units65
  have hq := g.hq
  refine pss_consD (m' := [.z, .z, .z, .x]) ?_ (pss_consD (m' := [.z, .z, .z, .o]) ?_ (pss_consD (m' := [.z, .z, .z, .o]) ?_ (pss_consD (m' := [.z, .z, .z, .o]) ?_ (pss_nilD))))
  · exact (ps_ifD (by exact ⟨⟨rfl, trivial⟩, trivial⟩) (pt_eqD hr3.units (pe_lenD (by rfl) (by exact c.fr _ m_len) (pa_consD (st := false) (fun h => by cases h) (pe_varD (by rfl) (vis_of (by rfl)) (by rfl) (by rfl)) (pa_nilD (st := false)) rfl) rfl rfl) pe_intD) (pss_consD (ps_retD (by decide) (.inl rfl) (by exact ⟨rfl, trivial⟩) (pe_callD (ih 9 _ _ F9) (by exact hr3) (by rfl) (by exact c.gl 9 (by decide)) (by exact F9.kp) (by exact bd_9 F9) (by exact takesD) (by exact (fun _ => rfl)) (by exact (.inl rfl)) (lenN len0) (pa_consD (fun _ => by decide) (pe_varD (by rfl) (vis_of (by rfl)) (by rfl) (by rfl)) pa_nilD rfl) (by rfl) (by rfl) (by rfl))) pss_nilD) pss_nilD)
  · exact (ps_setD (k := .o) hN (nameOk_of rfl rfl) (by decide) (by exact ⟨⟨rfl, trivial⟩, ⟨⟨rfl, trivial⟩, trivial⟩⟩) (by decide) (pe_lstD (pa_consD (fun _ => by decide) (pe_ixAD hr3.units (fun _ _ => rfl) (pe_varD (by rfl) (vis_of (by rfl)) (by rfl) (by rfl)) pe_intD) (pa_consD (fun _ => by decide) (pe_ixAD hr3.units (fun _ _ => rfl) (pe_varD (by rfl) (vis_of (by rfl)) (by rfl) (by rfl)) pe_intD) pa_nilD rfl) rfl)) rfl)
  · exact (ps_setixD (Nat.lt_of_le_of_lt (Nat.add_le_add_left (by decide) _) hr3.units) rfl (by exact ⟨rfl, trivial⟩) (by exact ⟨⟨(.inr rfl), ⟨rfl, trivial⟩⟩, ⟨⟨rfl, trivial, trivial⟩, ⟨rfl, trivial⟩⟩⟩) (by decide) (pe_var rfl (vis_of rfl) rfl rfl) (pe_ixAD hr3.units (fun _ _ => rfl) (pe_varD (by rfl) (vis_of (by rfl)) (by rfl) (by rfl)) pe_intD) (pe_callD (ih 25 _ _ F25) (by exact hr3) (by rfl) (by exact c.gl 25 (by decide)) (by exact F25.kp) (by exact bd_25 F25) (by exact takesD) (by exact (fun _ => rfl)) (by exact (.inl rfl)) (lenN (lenN (lenN len0))) (pa_consD (fun _ => by decide) (pe_ixAD hr3.units (fun _ _ => rfl) (pe_borD (by rfl) (vis_of (by rfl)) (by rfl) (by rfl)) (pe_ixAD hr3.units (fun _ _ => rfl) (pe_varD (by rfl) (vis_of (by rfl)) (by rfl) (by rfl)) pe_intD)) (pa_consD (fun _ => by decide) (pe_slLD (pe_varD (by rfl) (vis_of (by rfl)) (by rfl) (by rfl)) (po_someD pe_intD) po_noneD) (pa_consD (fun _ => by decide) (pe_varD (by rfl) (vis_of (by rfl)) (by rfl) (by rfl)) pa_nilD rfl) rfl) rfl) (by rfl) (by rfl) (by rfl)) rfl rfl (fun _ => rfl) rfl)
  · exact (ps_retD (by decide) (.inl rfl) (by exact ⟨⟨rfl, trivial⟩, ⟨⟨⟨(.inr rfl), trivial⟩, trivial⟩, ⟨⟨⟨(.inr rfl), trivial⟩, trivial⟩, trivial⟩⟩⟩) (pe_tupD (pa_consD (fun _ => by decide) (pe_ixAD hr3.units (fun _ _ => rfl) (pe_varD (by rfl) (vis_of (by rfl)) (by rfl) (by rfl)) pe_intD) (pa_consD (fun _ => by decide) (pe_callD (ih 9 _ _ F9) (by exact hr3) (by rfl) (by exact c.gl 9 (by decide)) (by exact F9.kp) (by exact bd_9 F9) (by exact takesD) (by exact (fun _ => rfl)) (by exact (.inl rfl)) (lenN len0) (pa_consD (fun _ => by decide) (pe_ixAD hr3.units (fun _ _ => rfl) (pe_borD (by rfl) (vis_of (by rfl)) (by rfl) (by rfl)) pe_intD) pa_nilD rfl) (by rfl) (by rfl) (by rfl)) (pa_consD (fun _ => by decide) (pe_callD (ih 9 _ _ F9) (by exact hr3) (by rfl) (by exact c.gl 9 (by decide)) (by exact F9.kp) (by exact bd_9 F9) (by exact takesD) (by exact (fun _ => rfl)) (by exact (.inl rfl)) (lenN len0) (pa_consD (fun _ => by decide) (pe_ixAD hr3.units (fun _ _ => rfl) (pe_borD (by rfl) (vis_of (by rfl)) (by rfl) (by rfl)) pe_intD) pa_nilD rfl) (by rfl) (by rfl) (by rfl)) pa_nilD rfl) rfl) rfl)))
theorem w_26 (c : CS K mg) (g : Gx C nc K G.gv) (ih : Good T P w K mg base G (k + 3) rn) (kc : Con K w mg) (gf : ∀ j, j < nd → G.gv.f j = some (V.ref (He.ga K (T.nm j)))) (lk : Addr → Prop) (cdv : Value) (A : Around) (outer : List Env) (s : Shared) (H : Hp) (E : XK) {f : Addr} (hlk0 : T.pu 26 = true ∨ ∀ a, ¬ lk a) (hr : Room (k + 5) (A.deeper (envOfC (T.nm 26) (defScope (T.st 26)) s.heap.objs.size f cdv))) :
    PSs (cxOf (L2.CX P w) P w K mg base (T.N 26) (T.nm 26) (defScope (T.st 26)) f cdv A outer s H E) (defBody (T.st 26)) (tS (G.L lk) (fun cls d _ H' => E cls d H') (T.pu 26) .z (b_26 rn) (md0 (T.N 26).length (T.ps 26).length) [.z, .z, .z]) := by
  obtain ⟨fd8, F8⟩ := c.df 8 (by decide)
  obtain ⟨fd23, F23⟩ := c.df 23 (by decide)
  obtain ⟨fd25, F25⟩ := c.df 25 (by decide)
  have hN := nd_26
  have hr3 := hr.mono (j := k + 3) (by omega)
  have hu65 := hr3.units65
  have hr1 := hr.mono (j := 2) (by omega)
  have hq := g.hq
  obtain ⟨ox2, in2, ti2, nf2⟩ := c.oex (j := 2) (f := "part") (by decide) rfl
  obtain ⟨fc2, D2⟩ := c.ci 2 (by decide) (by decide)
  refine pss_consD (m' := [.z, .z, .z]) ?_ (pss_consD (m' := [.z, .z, .z]) ?_ (pss_consD (m' := [.z, .z, .z]) ?_ (pss_nilD)))
  · exact (ps_exprD (by exact ⟨rfl, ⟨rfl, trivial⟩⟩) (pe_callD (ih 23 _ _ F23) (by exact hr3) (by rfl) (by exact c.gl 23 (by decide)) (by exact F23.kp) (by exact bd_23 F23) (by exact takesD) (by exact (fun _ => rfl)) (by exact (.inl rfl)) (lenN (lenN len0)) (pa_consD (fun _ => by decide) (pe_varD (by rfl) (vis_of (by rfl)) (by rfl) (by rfl)) (pa_consD (fun _ => by decide) (pe_varD (by rfl) (vis_of (by rfl)) (by rfl) (by rfl)) pa_nilD rfl) rfl) (by rfl) (by rfl) (by rfl)) rfl)
  · exact (ps_ifD (by exact ⟨rfl, trivial⟩) (pt_notD (pt_valD (pe_callD (ih 8 _ _ F8) (by exact hr3) (by rfl) (by exact c.gl 8 (by decide)) (by exact F8.kp) (by exact bd_8 F8) (by exact takesD) (by exact (fun _ => rfl)) (by exact (.inl rfl)) (lenN len0) (pa_consD (fun _ => by decide) (pe_varD (by rfl) (vis_of (by rfl)) (by rfl) (by rfl)) pa_nilD rfl) (by rfl) (by rfl) (by rfl)) (fun _ => rfl))) (pss_consD (ps_raiseD rfl (by exact takesD) ox2 in2 ti2 (okI_2 D2) (by exact hr1) (bi_2 D2) nf2 (by rfl) (by exact c.cg 2 (by decide)) (by exact (g.x 2).trans (if_pos (by decide))) (by exact rfl) (pe_varD (by rfl) (vis_of (by rfl)) (by rfl) (by rfl)) rfl rfl) pss_nilD) pss_nilD)
  · exact (ps_retD (by decide) (.inl rfl) (by exact ⟨rfl, ⟨⟨rfl, trivial⟩, ⟨rfl, trivial⟩⟩⟩) (pe_callD (ih 25 _ _ F25) (by exact hr3) (by rfl) (by exact c.gl 25 (by decide)) (by exact F25.kp) (by exact bd_25 F25) (by exact takesD) (by exact (fun _ => rfl)) (by exact (.inl rfl)) (lenN (lenN (lenN len0))) (pa_consD (fun _ => by decide) (pe_varD (by rfl) (vis_of (by rfl)) (by rfl) (by rfl)) (pa_consD (fun _ => by decide) (pe_listD rfl hq (by rfl) (by exact c.fr _ m_list) (pa_consD (st := false) (fun h => by cases h) (pe_varD (by rfl) (vis_of (by rfl)) (by rfl) (by rfl)) (pa_nilD (st := false)) rfl) rfl rfl) (pa_consD (fun _ => by decide) (pe_varD (by rfl) (vis_of (by rfl)) (by rfl) (by rfl)) pa_nilD rfl) rfl) rfl) (by rfl) (by rfl) (by rfl)))
theorem w_27 (c : CS K mg) (g : Gx C nc K G.gv) (ih : Good T P w K mg base G (k + 3) rn) (kc : Con K w mg) (gf : ∀ j, j < nd → G.gv.f j = some (V.ref (He.ga K (T.nm j)))) (lk : Addr → Prop) (cdv : Value) (A : Around) (outer : List Env) (s : Shared) (H : Hp) (E : XK) {f : Addr} (hlk0 : T.pu 27 = true ∨ ∀ a, ¬ lk a) (hr : Room (k + 5) (A.deeper (envOfC (T.nm 27) (defScope (T.st 27)) s.heap.objs.size f cdv))) :
    PSs (cxOf (L2.CX P w) P w K mg base (T.N 27) (T.nm 27) (defScope (T.st 27)) f cdv A outer s H E) (defBody (T.st 27)) (tS (G.L lk) (fun cls d _ H' => E cls d H') (T.pu 27) .z (b_27 rn) (md0 (T.N 27).length (T.ps 27).length) [.z]) := by
  have hN := nd_27
  have hr3 := hr.mono (j := k + 3) (by omega)
  have hu65 := hr3.units65
  have hq := g.hq
  refine pss_consD (m' := [.z]) ?_ (pss_nilD)
  · exact (ps_retD (by decide) (.inl rfl) (by exact ⟨⟨rfl, trivial⟩, ⟨trivial, ⟨trivial, ⟨trivial, trivial⟩⟩⟩⟩) (pe_cellD (pe_lstD (pa_consD (fun _ => by decide) (pe_cellD (pe_listD rfl hq (by rfl) (by exact c.fr _ m_list) (pa_consD (st := false) (fun h => by cases h) (pe_varD (by rfl) (vis_of (by rfl)) (by rfl) (by rfl)) (pa_nilD (st := false)) rfl) rfl rfl)) (pa_consD (fun _ => by decide) pe_intD (pa_consD (fun _ => by decide) pe_intD (pa_consD (fun _ => by decide) pe_intD pa_nilD rfl) rfl) rfl) rfl))))
theorem w_28 (c : CS K mg) (g : Gx C nc K G.gv) (ih : Good T P w K mg base G (k + 3) rn) (kc : Con K w mg) (gf : ∀ j, j < nd → G.gv.f j = some (V.ref (He.ga K (T.nm j)))) (lk : Addr → Prop) (cdv : Value) (A : Around) (outer : List Env) (s : Shared) (H : Hp) (E : XK) {f : Addr} (hlk0 : T.pu 28 = true ∨ ∀ a, ¬ lk a) (hr : Room (k + 5) (A.deeper (envOfC (T.nm 28) (defScope (T.st 28)) s.heap.objs.size f cdv))) :
    PSs (cxOf (L2.CX P w) P w K mg base (T.N 28) (T.nm 28) (defScope (T.st 28)) f cdv A outer s H E) (defBody (T.st 28)) (tS (G.L lk) (fun cls d _ H' => E cls d H') (T.pu 28) .z (b_28 rn) (md0 (T.N 28).length (T.ps 28).length) [.z, .z, .z, .x, .x]) := by
  have hN := nd_28
  have hr3 := hr.mono (j := k + 3) (by omega)
  have hu65 := hr3.units65
  have hlk : ∀ a, ¬ lk a := hlk0.resolve_left (by decide)
  have hq := g.hq
  refine pss_consD (m' := [.z, .z, .x, .x, .x]) ?_ (pss_consD (m' := [.z, .z, .x, .x, .x]) ?_ (pss_consD (m' := [.z, .z, .x, .x, .x]) ?_ (pss_consD (m' := [.z, .z, .z, .x, .x]) ?_ (pss_consD (m' := [.z, .z, .z, .x, .x]) ?_ (pss_nilD)))))
  · exact (ps_csetD rfl hlk (Nat.lt_of_le_of_lt (Nat.add_le_add_left (by decide) _) hr3.units) (by exact rfl) (by exact trivial) (by exact ⟨⟨rfl, trivial⟩, trivial⟩) (by decide) (pe_varD (by rfl) (vis_of (by rfl)) (by rfl) (by rfl)) pe_intD (pe_addD (pe_ixAD hr3.units (fun _ _ => rfl) (pe_varD (by rfl) (vis_of (by rfl)) (by rfl) (by rfl)) pe_intD) pe_intD) rfl rfl (fun _ => rfl) rfl)
  · exact (ps_whileD ownD (by exact ⟨⟨⟨rfl, trivial⟩, trivial⟩, ⟨⟨rfl, trivial⟩, trivial⟩⟩) (by rfl) (PW.pt (pw_andD (pt_eqD hr3.units (pe_ixAD hr3.units (fun _ _ => rfl) (pe_varD (by rfl) (vis_of (by rfl)) (by rfl) (by rfl)) pe_intD) pe_intD) (pw_and1D (pt_neD hr3.units (pe_ixAD hr3.units (fun _ _ => rfl) (pe_varD (by rfl) (vis_of (by rfl)) (by rfl) (by rfl)) pe_intD) (pe_lstD pa_nilD))))) (pss_consD (ps_setD (k := .z) hN (nameOk_of rfl rfl) (by decide) (by exact ⟨⟨⟨rfl, trivial⟩, ⟨trivial, trivial⟩⟩, trivial⟩) (by decide) (pe_absD (by rfl) (by exact c.fr _ m_abs) (pa_consD (st := false) (fun h => by cases h) (pe_cpopAtD rfl hlk (pe_ixAD hr3.units (fun _ _ => rfl) (pe_varD (by rfl) (vis_of (by rfl)) (by rfl) (by rfl)) pe_intD) (pa_consD (fun _ => by decide) pe_intD pa_nilD rfl) rfl rfl rfl rfl) (pa_nilD (st := false)) rfl) rfl rfl) rfl) (pss_consD (ps_csetD rfl hlk (Nat.lt_of_le_of_lt (Nat.add_le_add_left (by decide) _) hr3.units) (by exact rfl) (by exact trivial) (by exact ⟨⟨⟨⟨⟨⟨rfl, trivial⟩, trivial⟩, rfl⟩, trivial⟩, trivial⟩, trivial⟩) (by decide) (pe_varD (by rfl) (vis_of (by rfl)) (by rfl) (by rfl)) pe_intD (pe_modD (pe_intCD (by rfl) (by exact c.fr _ m_int) (pa_consD (st := false) (fun h => by cases h) (pe_addD (pe_addD (pe_mulD (pe_ixAD hr3.units (fun _ _ => rfl) (pe_varD (by rfl) (vis_of (by rfl)) (by rfl) (by rfl)) pe_intD) pe_intD) (pe_varD (by rfl) (vis_of (by rfl)) (by rfl) (by rfl))) pe_intD) (pa_nilD (st := false)) rfl) rfl rfl) pe_intD) rfl rfl (fun _ => rfl) rfl) (pss_consD (ps_csetD rfl hlk (Nat.lt_of_le_of_lt (Nat.add_le_add_left (by decide) _) hr3.units) (by exact rfl) (by exact trivial) (by exact ⟨⟨rfl, ⟨trivial, trivial⟩⟩, rfl, trivial⟩) (by decide) (pe_varD (by rfl) (vis_of (by rfl)) (by rfl) (by rfl)) pe_intD (pe_ifD (pt_geD (pe_varD (by rfl) (vis_of (by rfl)) (by rfl) (by rfl)) (pe_powD pe_intD pe_intD)) (pe_varD (by rfl) (vis_of (by rfl)) (by rfl) (by rfl)) pe_intD) rfl rfl (fun _ => rfl) rfl) pss_nilD))))
  · exact (ps_ifD (by exact ⟨⟨rfl, trivial⟩, trivial⟩) (pt_gtD (pe_ixAD hr3.units (fun _ _ => rfl) (pe_varD (by rfl) (vis_of (by rfl)) (by rfl) (by rfl)) pe_intD) pe_intD) (pss_consD (ps_setD (k := .z) hN (nameOk_of rfl rfl) (by decide) (by exact ⟨⟨⟨rfl, trivial⟩, trivial⟩, rfl⟩) (by decide) (pe_modD (pe_intCD (by rfl) (by exact c.fr _ m_int) (pa_consD (st := false) (fun h => by cases h) (pe_ixAD hr3.units (fun _ _ => rfl) (pe_varD (by rfl) (vis_of (by rfl)) (by rfl) (by rfl)) pe_intD) (pa_nilD (st := false)) rfl) rfl rfl) (pe_varD (by rfl) (vis_of (by rfl)) (by rfl) (by rfl))) rfl) (pss_consD (ps_csetD rfl hlk (Nat.lt_of_le_of_lt (Nat.add_le_add_left (by decide) _) hr3.units) (by exact rfl) (by exact trivial) (by exact ⟨⟨rfl, trivial⟩, rfl⟩) (by decide) (pe_varD (by rfl) (vis_of (by rfl)) (by rfl) (by rfl)) pe_intD (pe_fdivD (pe_ixAD hr3.units (fun _ _ => rfl) (pe_varD (by rfl) (vis_of (by rfl)) (by rfl) (by rfl)) pe_intD) (pe_varD (by rfl) (vis_of (by rfl)) (by rfl) (by rfl))) rfl rfl (fun _ => rfl) rfl) (pss_consD (ps_retD (by decide) (.inl rfl) (by exact rfl) (pe_varD (by rfl) (vis_of (by rfl)) (by rfl) (by rfl))) pss_nilD))) pss_nilD)
  · exact (ps_setD (k := .z) hN (nameOk_of rfl rfl) (by decide) (by exact ⟨⟨⟨⟨⟨⟨rfl, trivial⟩, ⟨trivial, ⟨rfl, trivial⟩⟩⟩, trivial⟩, trivial⟩, trivial⟩, trivial⟩) (by decide) (pe_modD (pe_intCD (by rfl) (by exact c.fr _ m_int) (pa_consD (st := false) (fun h => by cases h) (pe_powD (pe_addD (pe_addD (pe_ixAD hr3.units (fun _ _ => rfl) (pe_varD (by rfl) (vis_of (by rfl)) (by rfl) (by rfl)) pe_intD) (pe_mulD pe_intD (pe_ixAD hr3.units (fun _ _ => rfl) (pe_varD (by rfl) (vis_of (by rfl)) (by rfl) (by rfl)) pe_intD))) pe_intD) pe_intD) (pa_nilD (st := false)) rfl) rfl rfl) pe_intD) rfl)
  · exact (ps_retD (by decide) (.inl rfl) (by exact ⟨⟨⟨⟨⟨⟨⟨rfl, trivial⟩, ⟨trivial, ⟨rfl, trivial⟩⟩⟩, trivial⟩, trivial⟩, trivial⟩, trivial⟩, rfl⟩) (pe_modD (pe_modD (pe_intCD (by rfl) (by exact c.fr _ m_int) (pa_consD (st := false) (fun h => by cases h) (pe_powD (pe_addD (pe_addD (pe_mulD (pe_varD (by rfl) (vis_of (by rfl)) (by rfl) (by rfl)) pe_intD) (pe_mulD pe_intD (pe_ixAD hr3.units (fun _ _ => rfl) (pe_varD (by rfl) (vis_of (by rfl)) (by rfl) (by rfl)) pe_intD))) pe_intD) pe_intD) (pa_nilD (st := false)) rfl) rfl rfl) pe_intD) (pe_varD (by rfl) (vis_of (by rfl)) (by rfl) (by rfl))))
theorem w_29 (c : CS K mg) (g : Gx C nc K G.gv) (ih : Good T P w K mg base G (k + 3) rn) (kc : Con K w mg) (gf : ∀ j, j < nd → G.gv.f j = some (V.ref (He.ga K (T.nm j)))) (lk : Addr → Prop) (cdv : Value) (A : Around) (outer : List Env) (s : Shared) (H : Hp) (E : XK) {f : Addr} (hlk0 : T.pu 29 = true ∨ ∀ a, ¬ lk a) (hr : Room (k + 5) (A.deeper (envOfC (T.nm 29) (defScope (T.st 29)) s.heap.objs.size f cdv))) :
    PSs (cxOf (L2.CX P w) P w K mg base (T.N 29) (T.nm 29) (defScope (T.st 29)) f cdv A outer s H E) (defBody (T.st 29)) (tS (G.L lk) (fun cls d _ H' => E cls d H') (T.pu 29) .z (b_29 rn) (md0 (T.N 29).length (T.ps 29).length) [.z, .z]) := by
  obtain ⟨fd28, F28⟩ := c.df 28 (by decide)
  have hN := nd_29
  have hr3 := hr.mono (j := k + 3) (by omega)
  have hu65 := hr3.units65
  have hlk : ∀ a, ¬ lk a := hlk0.resolve_left (by decide)
  have hq := g.hq
  refine pss_consD (m' := [.z, .z]) ?_ (pss_nilD)
  · exact (ps_retD (by decide) (.inl rfl) (by exact ⟨rfl, ⟨rfl, ⟨⟨rfl, trivial⟩, trivial⟩⟩⟩) (pe_ixAD hr3.units (fun _ _ => rfl) (pe_varD (by rfl) (vis_of (by rfl)) (by rfl) (by rfl)) (pe_callD (ih 28 _ _ F28) (by exact hr3) (by rfl) (by exact c.gl 28 (by decide)) (by exact F28.kp) (by exact bd_28 F28) (by exact takesD) (by exact (fun h => by cases h)) (by exact (.inr hlk)) (lenN (lenN len0)) (pa_consD (fun _ => by decide) (pe_varD (by rfl) (vis_of (by rfl)) (by rfl) (by rfl)) (pa_consD (fun _ => by decide) (pe_lenD (by rfl) (by exact c.fr _ m_len) (pa_consD (st := false) (fun h => by cases h) (pe_varD (by rfl) (vis_of (by rfl)) (by rfl) (by rfl)) (pa_nilD (st := false)) rfl) rfl rfl) pa_nilD rfl) rfl) (by rfl) (by rfl) (by rfl))))
theorem w_30 (c : CS K mg) (g : Gx C nc K G.gv) (ih : Good T P w K mg base G (k + 3) rn) (kc : Con K w mg) (gf : ∀ j, j < nd → G.gv.f j = some (V.ref (He.ga K (T.nm j)))) (lk : Addr → Prop) (cdv : Value) (A : Around) (outer : List Env) (s : Shared) (H : Hp) (E : XK) {f : Addr} (hlk0 : T.pu 30 = true ∨ ∀ a, ¬ lk a) (hr : Room (k + 5) (A.deeper (envOfC (T.nm 30) (defScope (T.st 30)) s.heap.objs.size f cdv))) :
    PSs (cxOf (L2.CX P w) P w K mg base (T.N 30) (T.nm 30) (defScope (T.st 30)) f cdv A outer s H E) (defBody (T.st 30)) (tS (G.L lk) (fun cls d _ H' => E cls d H') (T.pu 30) .z (b_30 rn) (md0 (T.N 30).length (T.ps 30).length) [.z, .z, .x, .x, .x]) := by
  have hN := nd_30
  have hr3 := hr.mono (j := k + 3) (by omega)
  have hu65 := hr3.units65
  have hlk : ∀ a, ¬ lk a := hlk0.resolve_left (by decide)
  have hq := g.hq
  refine pss_consD (m' := [.z, .z, .x, .x, .x]) ?_ (pss_consD (m' := [.z, .z, .x, .x, .x]) ?_ (pss_consD (m' := [.z, .z, .x, .x, .x]) ?_ (pss_nilD)))
  · exact ps_stuck
  · exact ps_stuck
  · exact ps_stuck
theorem w_31 (c : CS K mg) (g : Gx C nc K G.gv) (ih : Good T P w K mg base G (k + 3) rn) (kc : Con K w mg) (gf : ∀ j, j < nd → G.gv.f j = some (V.ref (He.ga K (T.nm j)))) (lk : Addr → Prop) (cdv : Value) (A : Around) (outer : List Env) (s : Shared) (H : Hp) (E : XK) {f : Addr} (hlk0 : T.pu 31 = true ∨ ∀ a, ¬ lk a) (hr : Room (k + 5) (A.deeper (envOfC (T.nm 31) (defScope (T.st 31)) s.heap.objs.size f cdv))) :
    PSs (cxOf (L2.CX P w) P w K mg base (T.N 31) (T.nm 31) (defScope (T.st 31)) f cdv A outer s H E) (defBody (T.st 31)) (tS (G.L lk) (fun cls d _ H' => E cls d H') (T.pu 31) .z (b_31 rn) (md0 (T.N 31).length (T.ps 31).length) [.z, .z, .x, .x, .x]) := by
  obtain ⟨fd31, F31⟩ := c.df 31 (by decide)
  have hN := nd_31
  have hr3 := hr.mono (j := k + 3) (by omega)
  have hu65 := hr3.units65
  have hq := g.hq
  refine pss_consD (m' := [.z, .z, .x, .x, .x]) ?_ (pss_consD (m' := [.z, .z, .x, .x, .x]) ?_ (pss_consD (m' := [.z, .z, .x, .x, .x]) ?_ (pss_consD (m' := [.z, .z, .x, .x, .x]) ?_ (pss_consD (m' := [.z, .z, .x, .x, .x]) ?_ (pss_consD (m' := [.z, .z, .x, .x, .x]) ?_ (pss_nilD))))))
  · exact (ps_ifD (by exact rfl) (pt_valD (pe_isiTD (ts := [.list, .tuple]) (by rfl) (by exact c.fr _ m_isinstance) (pe_varD (by rfl) (vis_of (by rfl)) (by rfl) (by rfl)) (tys c) rfl rfl rfl rfl) (fun _ => rfl)) (pss_consD (ps_ifD (by exact ⟨⟨rfl, rfl⟩, ⟨rfl, rfl⟩⟩) (PW.pt (pw_orD (pt_neD hr3.units (pe_isi1D (t := .list) (by rfl) (by exact c.fr _ m_isinstance) (pe_varD (by rfl) (vis_of (by rfl)) (by rfl) (by rfl)) (pe_ty (by exact tys c) (by rfl) (by rfl)) rfl rfl rfl) (pe_isi1D (t := .list) (by rfl) (by exact c.fr _ m_isinstance) (pe_varD (by rfl) (vis_of (by rfl)) (by rfl) (by rfl)) (pe_ty (by exact tys c) (by rfl) (by rfl)) rfl rfl rfl)) (pw_or1D (pt_neD hr3.units (pe_isi1D (t := .tuple) (by rfl) (by exact c.fr _ m_isinstance) (pe_varD (by rfl) (vis_of (by rfl)) (by rfl) (by rfl)) (pe_ty (by exact tys c) (by rfl) (by rfl)) rfl rfl rfl) (pe_isi1D (t := .tuple) (by rfl) (by exact c.fr _ m_isinstance) (pe_varD (by rfl) (vis_of (by rfl)) (by rfl) (by rfl)) (pe_ty (by exact tys c) (by rfl) (by rfl)) rfl rfl rfl))))) (pss_consD (ps_retD (by decide) (.inl rfl) (by exact trivial) pe_boolD) pss_nilD) pss_nilD) (pss_consD (ps_retD (by decide) (.inl rfl) (by exact ⟨⟨⟨rfl, trivial⟩, ⟨rfl, trivial⟩⟩, ⟨⟨⟨rfl, ⟨rfl, trivial⟩⟩, trivial, ⟨rfl, ⟨rfl, trivial⟩⟩⟩, trivial⟩⟩) (pe_andD (pe_eqD hr3.units (pe_lenD (by rfl) (by exact c.fr _ m_len) (pa_consD (st := false) (fun h => by cases h) (pe_varD (by rfl) (vis_of (by rfl)) (by rfl) (by rfl)) (pa_nilD (st := false)) rfl) rfl rfl) (pe_lenD (by rfl) (by exact c.fr _ m_len) (pa_consD (st := false) (fun h => by cases h) (pe_varD (by rfl) (vis_of (by rfl)) (by rfl) (by rfl)) (pa_nilD (st := false)) rfl) rfl rfl)) (pe_and1D (pe_allD rfl (by rfl) (by exact c.fr _ m_all) (pa_consD (st := false) (fun h => by cases h) (pe_lcD (own := [("mine", 3), ("theirs", 4)]) (t := (.tup [3, 4])) rfl hN (blkOk_by rfl) (by decide) (by decide) (pi_zipD (by rfl) (by exact c.fr _ m_zip) (pa_consD (fun _ => by decide) (pe_varD (by rfl) (vis_of (by rfl)) (by rfl) (by rfl)) (pa_consD (fun _ => by decide) (pe_varD (by rfl) (vis_of (by rfl)) (by rfl) (by rfl)) pa_nilD rfl) rfl) rfl rfl) (fun _ _ _ _ _ => (.tup (.cons ⟨_, _, rfl, nameOk_of rfl rfl⟩ (.cons ⟨_, _, rfl, nameOk_of rfl rfl⟩ .nil)))) (fun _ _ _ _ _ => pts_nilD) (fun _ _ _ _ _ => (pe_callD (ih 31 _ _ F31) (by exact hr3) (by rfl) (by exact c.gl 31 (by decide)) (by exact F31.kp) (by exact bd_31 F31) (by exact takesB) (by exact (fun _ => rfl)) (by exact (.inl rfl)) (lenN (lenN len0)) (pa_consD (fun _ => by decide) (pe_varD (by rfl) (vis_of (by rfl)) (by rfl) (by rfl)) (pa_consD (fun _ => by decide) (pe_varD (by rfl) (vis_of (by rfl)) (by rfl) (by rfl)) pa_nilD rfl) rfl) (by rfl) (by rfl) (by rfl))) (fun _ => rfl)) (pa_nilD (st := false)) rfl) rfl rfl)))) pss_nilD)) pss_nilD)
  · exact (ps_ifD (by exact rfl) (pt_valD (pe_isi1D (t := .dict) (by rfl) (by exact c.fr _ m_isinstance) (pe_varD (by rfl) (vis_of (by rfl)) (by rfl) (by rfl)) (pe_ty (by exact tys c) (by rfl) (by rfl)) rfl rfl rfl) (fun _ => rfl)) (pss_consD (ps_ifD (by exact ⟨rfl, ⟨⟨rfl, trivial⟩, ⟨⟨rfl, trivial⟩, trivial⟩⟩⟩) (PW.pt (pw_orD (pt_notD (pt_valD (pe_isi1D (t := .dict) (by rfl) (by exact c.fr _ m_isinstance) (pe_varD (by rfl) (vis_of (by rfl)) (by rfl) (by rfl)) (pe_ty (by exact tys c) (by rfl) (by rfl)) rfl rfl rfl) (fun _ => rfl))) (pw_or1D (pt_notD (pt_valD (pe_callD (ih 31 _ _ F31) (by exact hr3) (by rfl) (by exact c.gl 31 (by decide)) (by exact F31.kp) (by exact bd_31 F31) (by exact takesD) (by exact (fun _ => rfl)) (by exact (.inl rfl)) (lenN (lenN len0)) (pa_consD (fun _ => by decide) (pe_listD rfl hq (by rfl) (by exact c.fr _ m_list) (pa_consD (st := false) (fun h => by cases h) (pe_varD (by rfl) (vis_of (by rfl)) (by rfl) (by rfl)) (pa_nilD (st := false)) rfl) rfl rfl) (pa_consD (fun _ => by decide) (pe_listD rfl hq (by rfl) (by exact c.fr _ m_list) (pa_consD (st := false) (fun h => by cases h) (pe_varD (by rfl) (vis_of (by rfl)) (by rfl) (by rfl)) (pa_nilD (st := false)) rfl) rfl rfl) pa_nilD rfl) rfl) (by rfl) (by rfl) (by rfl)) (fun _ => rfl)))))) (pss_consD (ps_retD (by decide) (.inl rfl) (by exact trivial) pe_boolD) pss_nilD) pss_nilD) (pss_consD (ps_retD (by decide) (.inl rfl) (by exact ⟨⟨rfl, trivial, trivial, ⟨⟨rfl, rfl⟩, ⟨⟨rfl, rfl⟩, trivial⟩⟩⟩, trivial⟩) (pe_allD rfl (by rfl) (by exact c.fr _ m_all) (pa_consD (st := false) (fun h => by cases h) (pe_lcK (okm := fun m => m[1]? = some .z ∧ okLc (.one 2) [2] (fun _ => True) _ _ m) (t := (.one 2)) (vs := [2]) (by decide) (by decide) (fun m h => h.2.2) (fun m h => h.1) (fun lk => pe_lc (own := [("key", 2)]) rfl hN (pi_keys (pe_var rfl (vis_of rfl) rfl rfl)) (blkOk_by rfl) (fun _ _ _ _ _ => pg_tgD rfl hN (.one (nameOk_of rfl rfl))) (fun _ _ _ _ _ => pts_nilD) (fun _ _ _ _ _ => (pe_callD (ih 31 _ _ F31) (by exact hr3) (by rfl) (by exact c.gl 31 (by decide)) (by exact F31.kp) (by exact bd_31 F31) (by exact takesB) (by exact (fun _ => rfl)) (by exact (.inl rfl)) (lenN (lenN len0)) (pa_consD (fun _ => by decide) (pe_ixAD hr3.units (fun _ _ => rfl) (pe_varD (by rfl) (vis_of (by rfl)) (by rfl) (by rfl)) (pe_varD (by rfl) (vis_of (by rfl)) (by rfl) (by rfl))) (pa_consD (fun _ => by decide) (pe_ixAD hr3.units (fun _ _ => rfl) (pe_varD (by rfl) (vis_of (by rfl)) (by rfl) (by rfl)) (pe_varD (by rfl) (vis_of (by rfl)) (by rfl) (by rfl))) pa_nilD rfl) rfl) (by rfl) (by rfl) (by rfl))) (fun _ => rfl))) (pa_nilD (st := false)) rfl) rfl rfl)) pss_nilD)) pss_nilD)
  · exact (ps_ifD (by exact ⟨rfl, trivial⟩) (pt_isND (pe_varD (by rfl) (vis_of (by rfl)) (by rfl) (by rfl)) pe_nonD) (pss_consD (ps_retD (by decide) (.inl rfl) (by exact ⟨rfl, trivial⟩) (pe_isND (pe_varD (by rfl) (vis_of (by rfl)) (by rfl) (by rfl)) pe_nonD)) pss_nilD) pss_nilD)
  · exact (ps_ifD (by exact rfl) (pt_valD (pe_isi1D (t := .bool) (by rfl) (by exact c.fr _ m_isinstance) (pe_varD (by rfl) (vis_of (by rfl)) (by rfl) (by rfl)) (pe_ty (by exact tys c) (by rfl) (by rfl)) rfl rfl rfl) (fun _ => rfl)) (pss_consD (ps_retD (by decide) (.inl rfl) (by exact ⟨rfl, ⟨rfl, rfl⟩⟩) (pe_andD (pe_isi1D (t := .bool) (by rfl) (by exact c.fr _ m_isinstance) (pe_varD (by rfl) (vis_of (by rfl)) (by rfl) (by rfl)) (pe_ty (by exact tys c) (by rfl) (by rfl)) rfl rfl rfl) (pe_and1D (pe_eqD hr3.units (pe_varD (by rfl) (vis_of (by rfl)) (by rfl) (by rfl)) (pe_varD (by rfl) (vis_of (by rfl)) (by rfl) (by rfl)))))) pss_nilD) pss_nilD)
  · exact (ps_ifD (by exact rfl) (pt_valD (pe_isi1D (t := .int) (by rfl) (by exact c.fr _ m_isinstance) (pe_varD (by rfl) (vis_of (by rfl)) (by rfl) (by rfl)) (pe_ty (by exact tys c) (by rfl) (by rfl)) rfl rfl rfl) (fun _ => rfl)) (pss_consD (ps_retD (by decide) (.inl rfl) (by exact ⟨rfl, ⟨rfl, ⟨rfl, rfl⟩⟩⟩) (pe_andD (pe_isi1D (t := .int) (by rfl) (by exact c.fr _ m_isinstance) (pe_varD (by rfl) (vis_of (by rfl)) (by rfl) (by rfl)) (pe_ty (by exact tys c) (by rfl) (by rfl)) rfl rfl rfl) (pe_andD (pe_notD (pe_isi1D (t := .bool) (by rfl) (by exact c.fr _ m_isinstance) (pe_varD (by rfl) (vis_of (by rfl)) (by rfl) (by rfl)) (pe_ty (by exact tys c) (by rfl) (by rfl)) rfl rfl rfl)) (pe_and1D (pe_eqD hr3.units (pe_varD (by rfl) (vis_of (by rfl)) (by rfl) (by rfl)) (pe_varD (by rfl) (vis_of (by rfl)) (by rfl) (by rfl))))))) pss_nilD) pss_nilD)
  · exact (ps_retD (by decide) (.inl rfl) (by exact ⟨rfl, ⟨rfl, rfl⟩⟩) (pe_andD (pe_isi1D (t := .str) (by rfl) (by exact c.fr _ m_isinstance) (pe_varD (by rfl) (vis_of (by rfl)) (by rfl) (by rfl)) (pe_ty (by exact tys c) (by rfl) (by rfl)) rfl rfl rfl) (pe_and1D (pe_eqD hr3.units (pe_varD (by rfl) (vis_of (by rfl)) (by rfl) (by rfl)) (pe_varD (by rfl) (vis_of (by rfl)) (by rfl) (by rfl))))))
theorem w_32 (c : CS K mg) (g : Gx C nc K G.gv) (ih : Good T P w K mg base G (k + 3) rn) (kc : Con K w mg) (gf : ∀ j, j < nd → G.gv.f j = some (V.ref (He.ga K (T.nm j)))) (lk : Addr → Prop) (cdv : Value) (A : Around) (outer : List Env) (s : Shared) (H : Hp) (E : XK) {f : Addr} (hlk0 : T.pu 32 = true ∨ ∀ a, ¬ lk a) (hr : Room (k + 5) (A.deeper (envOfC (T.nm 32) (defScope (T.st 32)) s.heap.objs.size f cdv))) :
    PSs (cxOf (L2.CX P w) P w K mg base (T.N 32) (T.nm 32) (defScope (T.st 32)) f cdv A outer s H E) (defBody (T.st 32)) (tS (G.L lk) (fun cls d _ H' => E cls d H') (T.pu 32) .z (b_32 rn) (md0 (T.N 32).length (T.ps 32).length) [.z, .x, .x, .x]) := by
  obtain ⟨fd32, F32⟩ := c.df 32 (by decide)
  have hN := nd_32
  have hr3 := hr.mono (j := k + 3) (by omega)
  have hu65 := hr3.units65
  have hq := g.hq
  refine pss_consD (m' := [.z, .x, .x, .x]) ?_ (pss_consD (m' := [.z, .x, .x, .x]) ?_ (pss_consD (m' := [.z, .x, .x, .x]) ?_ (pss_consD (m' := [.z, .x, .x, .x]) ?_ (pss_nilD))))
  · exact (ps_ifD (by exact rfl) (pt_valD (pe_isi1D (t := .list) (by rfl) (by exact c.fr _ m_isinstance) (pe_varD (by rfl) (vis_of (by rfl)) (by rfl) (by rfl)) (pe_ty (by exact tys c) (by rfl) (by rfl)) rfl rfl rfl) (fun _ => rfl)) (pss_consD (ps_retD (by decide) (.inl rfl) (by exact ⟨rfl, trivial, ⟨rfl, trivial⟩⟩) (toZ (by decide) (pe_lcD (own := [("one", 3)]) (t := (.one 3)) rfl hN (blkOk_by rfl) (by decide) (by decide) (pi_seqP (pe_varD (by rfl) (vis_of (by rfl)) (by rfl) (by rfl))) (fun _ _ _ _ _ => (.one (nameOk_of rfl rfl))) (fun _ _ _ _ _ => pts_nilD) (fun _ _ _ _ _ => (pe_callD (ih 32 _ _ F32) (by exact hr3) (by rfl) (by exact c.gl 32 (by decide)) (by exact F32.kp) (by exact bd_32 F32) (by exact takesB) (by exact (fun _ => rfl)) (by exact (.inl rfl)) (lenN len0) (pa_consD (fun _ => by decide) (pe_varD (by rfl) (vis_of (by rfl)) (by rfl) (by rfl)) pa_nilD rfl) (by rfl) (by rfl) (by rfl))) (fun _ => rfl)))) pss_nilD) pss_nilD)
  · exact (ps_ifD (by exact rfl) (pt_valD (pe_isi1D (t := .tuple) (by rfl) (by exact c.fr _ m_isinstance) (pe_varD (by rfl) (vis_of (by rfl)) (by rfl) (by rfl)) (pe_ty (by exact tys c) (by rfl) (by rfl)) rfl rfl rfl) (fun _ => rfl)) (pss_consD (ps_retD (by decide) (.inl rfl) (by exact ⟨⟨rfl, trivial, ⟨rfl, trivial⟩⟩, trivial⟩) (pe_tupleD (by rfl) (by exact c.fr _ m_tuple) (pa_consD (st := false) (fun h => by cases h) (pe_lcD (own := [("one", 3)]) (t := (.one 3)) rfl hN (blkOk_by rfl) (by decide) (by decide) (pi_seqP (pe_varD (by rfl) (vis_of (by rfl)) (by rfl) (by rfl))) (fun _ _ _ _ _ => (.one (nameOk_of rfl rfl))) (fun _ _ _ _ _ => pts_nilD) (fun _ _ _ _ _ => (pe_callD (ih 32 _ _ F32) (by exact hr3) (by rfl) (by exact c.gl 32 (by decide)) (by exact F32.kp) (by exact bd_32 F32) (by exact takesB) (by exact (fun _ => rfl)) (by exact (.inl rfl)) (lenN len0) (pa_consD (fun _ => by decide) (pe_varD (by rfl) (vis_of (by rfl)) (by rfl) (by rfl)) pa_nilD rfl) (by rfl) (by rfl) (by rfl))) (fun _ => rfl)) (pa_nilD (st := false)) rfl) rfl rfl)) pss_nilD) pss_nilD)
  · exact (ps_ifD (by exact rfl) (pt_valD (pe_isi1D (t := .dict) (by rfl) (by exact c.fr _ m_isinstance) (pe_varD (by rfl) (vis_of (by rfl)) (by rfl) (by rfl)) (pe_ty (by exact tys c) (by rfl) (by rfl)) rfl rfl rfl) (fun _ => rfl)) (pss_consD (ps_setD (k := .o) hN (nameOk_of rfl rfl) (by decide) (by exact trivial) (by decide) (pe_dnewD false) rfl) (pss_consD (ps_forED ownD rfl (by rfl) (vis_of (by rfl)) (by rfl) (by rfl) rfl (fun _ => rfl)) (pss_consD (ts_frz [1] (ps_retD (by decide) (.inl rfl) (by exact rfl) (pe_varD (by rfl) (vis_of (by rfl)) (by rfl) (by rfl)))) pss_nilD))) pss_nilD)
  · exact (ps_retD (by decide) (.inl rfl) (by exact rfl) (pe_varD (by rfl) (vis_of (by rfl)) (by rfl) (by rfl)))
theorem w_33 (c : CS K mg) (g : Gx C nc K G.gv) (ih : Good T P w K mg base G (k + 3) rn) (kc : Con K w mg) (gf : ∀ j, j < nd → G.gv.f j = some (V.ref (He.ga K (T.nm j)))) (lk : Addr → Prop) (cdv : Value) (A : Around) (outer : List Env) (s : Shared) (H : Hp) (E : XK) {f : Addr} (hlk0 : T.pu 33 = true ∨ ∀ a, ¬ lk a) (hr : Room (k + 5) (A.deeper (envOfC (T.nm 33) (defScope (T.st 33)) s.heap.objs.size f cdv))) :
    PSs (cxOf (L2.CX P w) P w K mg base (T.N 33) (T.nm 33) (defScope (T.st 33)) f cdv A outer s H E) (defBody (T.st 33)) (tS (G.L lk) (fun cls d _ H' => E cls d H') (T.pu 33) .z (b_33 rn) (md0 (T.N 33).length (T.ps 33).length) [.z, .z, .x, .x, .x, .x]) := by
  obtain ⟨fd28, F28⟩ := c.df 28 (by decide)
  obtain ⟨fd30, F30⟩ := c.df 30 (by decide)
  obtain ⟨fd33, F33⟩ := c.df 33 (by decide)
  have hN := nd_33
  have hr3 := hr.mono (j := k + 3) (by omega)
  have hu65 := hr3.units65
  have hlk : ∀ a, ¬ lk a := hlk0.resolve_left (by decide)
  have hq := g.hq
  refine pss_consD (m' := [.z, .z, .x, .x, .x, .x]) ?_ (pss_consD (m' := [.z, .z, .x, .x, .x, .x]) ?_ (pss_consD (m' := [.z, .z, .x, .x, .x, .x]) ?_ (pss_nilD)))
  · exact (ps_ifD (by exact rfl) (pt_valD (pe_isiTD (ts := [.list, .tuple]) (by rfl) (by exact c.fr _ m_isinstance) (pe_varD (by rfl) (vis_of (by rfl)) (by rfl) (by rfl)) (tys c) rfl rfl rfl rfl) (fun _ => rfl)) (pss_consD (ps_setLcCD (own := [("one", 5)]) (t := (.one 5)) rfl hN rfl rfl (by decide) rfl (blkOk_by rfl) (by decide) (by decide) (pi_seqP (pe_varD (by rfl) (vis_of (by rfl)) (by rfl) (by rfl))) (fun _ _ _ _ _ => (.one (nameOk_of rfl rfl))) (fun _ _ _ _ _ => pts_nilD) (fun _ _ _ _ _ => (pe_callD (ih 33 _ _ F33) (by exact hr3) (by rfl) (by exact c.gl 33 (by decide)) (by exact F33.kp) (by exact bd_33 F33) (by exact takesB) (by exact (fun h => by cases h)) (by exact (.inr hlk)) (lenN (lenN len0)) (pa_consD (fun _ => by decide) (pe_varD (by rfl) (vis_of (by rfl)) (by rfl) (by rfl)) (pa_consD (fun _ => by decide) (pe_varD (by rfl) (vis_of (by rfl)) (by rfl) (by rfl)) pa_nilD rfl) rfl) (by rfl) (by rfl) (by rfl))) (fun _ => rfl) ⟨rfl, trivial, ⟨rfl, ⟨rfl, trivial⟩⟩⟩) (pss_consD (ps_retD (by decide) (.inl rfl) (by exact ⟨⟨⟨rfl, ⟨trivial, trivial⟩⟩, trivial⟩, rfl, ⟨rfl, trivial⟩⟩) (pe_ifD (pt_eqD hr3.units (pe_callD (ih 28 _ _ F28) (by exact hr3) (by rfl) (by exact c.gl 28 (by decide)) (by exact F28.kp) (by exact bd_28 F28) (by exact takesD) (by exact (fun h => by cases h)) (by exact (.inr hlk)) (lenN (lenN len0)) (pa_consD (fun _ => by decide) (pe_varD (by rfl) (vis_of (by rfl)) (by rfl) (by rfl)) (pa_consD (fun _ => by decide) pe_intD pa_nilD rfl) rfl) (by rfl) (by rfl) (by rfl)) pe_intD) (pe_varD (by rfl) (vis_of (by rfl)) (by rfl) (by rfl)) (pe_tupleD (by rfl) (by exact c.fr _ m_tuple) (pa_consD (st := false) (fun h => by cases h) (pe_varD (by rfl) (vis_of (by rfl)) (by rfl) (by rfl)) (pa_nilD (st := false)) rfl) rfl rfl))) pss_nilD)) pss_nilD)
  · exact (ps_ifD (by exact rfl) (pt_valD (pe_isi1D (t := .dict) (by rfl) (by exact c.fr _ m_isinstance) (pe_varD (by rfl) (vis_of (by rfl)) (by rfl) (by rfl)) (pe_ty (by exact tys c) (by rfl) (by rfl)) rfl rfl rfl) (fun _ => rfl)) (pss_consD (ps_setD (k := .o) hN (nameOk_of rfl rfl) (by decide) (by exact trivial) (by decide) (pe_dnewD false) rfl) (pss_consD (ps_forD (t := (.one 4)) ownD rfl hN (.one (nameOk_of rfl rfl)) (by exact ⟨rfl, ⟨⟨rfl, trivial⟩, trivial⟩⟩) (by rfl) (pi_seqP (pe_callD (ih 30 _ _ F30) (by exact hr3) (by rfl) (by exact c.gl 30 (by decide)) (by exact F30.kp) (by exact bd_30 F30) (by exact takesD) (by exact (fun h => by cases h)) (by exact (.inr hlk)) (lenN (lenN len0)) (pa_consD (fun _ => by decide) (pe_varD (by rfl) (vis_of (by rfl)) (by rfl) (by rfl)) (pa_consD (fun _ => by decide) (pe_cellD (pe_listD rfl hq (by rfl) (by exact c.fr _ m_list) (pa_consD (st := false) (fun h => by cases h) (pe_varD (by rfl) (vis_of (by rfl)) (by rfl) (by rfl)) (pa_nilD (st := false)) rfl) rfl rfl)) pa_nilD rfl) rfl) (by rfl) (by rfl) (by rfl))) (pss_consD (ps_setixD (Nat.lt_of_le_of_lt (Nat.add_le_add_left (by decide) _) hr3.units) rfl (by exact rfl) (by exact ⟨rfl, ⟨⟨rfl, rfl⟩, trivial⟩⟩) (by decide) (pe_var rfl (vis_of rfl) rfl rfl) (pe_varD (by rfl) (vis_of (by rfl)) (by rfl) (by rfl)) (pe_callD (ih 33 _ _ F33) (by exact hr3) (by rfl) (by exact c.gl 33 (by decide)) (by exact F33.kp) (by exact bd_33 F33) (by exact takesD) (by exact (fun h => by cases h)) (by exact (.inr hlk)) (lenN (lenN len0)) (pa_consD (fun _ => by decide) (pe_varD (by rfl) (vis_of (by rfl)) (by rfl) (by rfl)) (pa_consD (fun _ => by decide) (pe_ixAD hr3.units (fun _ _ => rfl) (pe_varD (by rfl) (vis_of (by rfl)) (by rfl) (by rfl)) (pe_varD (by rfl) (vis_of (by rfl)) (by rfl) (by rfl))) pa_nilD rfl) rfl) (by rfl) (by rfl) (by rfl)) rfl rfl (fun _ => rfl) rfl) pss_nilD) (fun _ => rfl)) (pss_consD (ts_frz [3] (ps_retD (by decide) (.inl rfl) (by exact rfl) (pe_varD (by rfl) (vis_of (by rfl)) (by rfl) (by rfl)))) pss_nilD))) pss_nilD)
  · exact (ps_retD (by decide) (.inl rfl) (by exact rfl) (pe_varD (by rfl) (vis_of (by rfl)) (by rfl) (by rfl)))
theorem w_34 (c : CS K mg) (g : Gx C nc K G.gv) (ih : Good T P w K mg base G (k + 3) rn) (kc : Con K w mg) (gf : ∀ j, j < nd → G.gv.f j = some (V.ref (He.ga K (T.nm j)))) (lk : Addr → Prop) (cdv : Value) (A : Around) (outer : List Env) (s : Shared) (H : Hp) (E : XK) {f : Addr} (hlk0 : T.pu 34 = true ∨ ∀ a, ¬ lk a) (hr : Room (k + 5) (A.deeper (envOfC (T.nm 34) (defScope (T.st 34)) s.heap.objs.size f cdv))) :
    PSs (cxOf (L2.CX P w) P w K mg base (T.N 34) (T.nm 34) (defScope (T.st 34)) f cdv A outer s H E) (defBody (T.st 34)) (tS (G.L lk) (fun cls d _ H' => E cls d H') (T.pu 34) .z (b_34 rn) (md0 (T.N 34).length (T.ps 34).length) [.z, .x, .x]) := by
  obtain ⟨fd34, F34⟩ := c.df 34 (by decide)
  have hN := nd_34
  have hr3 := hr.mono (j := k + 3) (by omega)
  have hu65 := hr3.units65
  have hlk : ∀ a, ¬ lk a := hlk0.resolve_left (by decide)
  have hq := g.hq
  refine pss_consD (m' := [.z, .x, .x]) ?_ (pss_consD (m' := [.z, .x, .x]) ?_ (pss_consD (m' := [.z, .x, .x]) ?_ (pss_consD (m' := [.z, .x, .x]) ?_ (pss_nilD))))
  · exact (ps_ifD (by exact rfl) (pt_valD (pe_isiTD (ts := [.list, .tuple]) (by rfl) (by exact c.fr _ m_isinstance) (pe_varD (by rfl) (vis_of (by rfl)) (by rfl) (by rfl)) (tys c) rfl rfl rfl rfl) (fun _ => rfl)) (pss_consD (ps_forD (t := (.one 1)) ownD rfl hN (.one (nameOk_of rfl rfl)) (by exact ⟨rfl, trivial⟩) (by rfl) (pi_seqP (toZ (by decide) (pe_listD rfl hq (by rfl) (by exact c.fr _ m_list) (pa_consD (st := false) (fun h => by cases h) (pe_varD (by rfl) (vis_of (by rfl)) (by rfl) (by rfl)) (pa_nilD (st := false)) rfl) rfl rfl))) (pss_consD (ps_exprD (by exact ⟨rfl, trivial⟩) (pe_callD (ih 34 _ _ F34) (by exact hr3) (by rfl) (by exact c.gl 34 (by decide)) (by exact F34.kp) (by exact bd_34 F34) (by exact takesD) (by exact (fun h => by cases h)) (by exact (.inr hlk)) (lenN len0) (pa_consD (fun _ => by decide) (pe_varD (by rfl) (vis_of (by rfl)) (by rfl) (by rfl)) pa_nilD rfl) (by rfl) (by rfl) (by rfl)) rfl) pss_nilD) (fun _ => rfl)) pss_nilD) pss_nilD)
  · exact (ps_ifD (by exact rfl) (pt_valD (pe_isi1D (t := .list) (by rfl) (by exact c.fr _ m_isinstance) (pe_varD (by rfl) (vis_of (by rfl)) (by rfl) (by rfl)) (pe_ty (by exact tys c) (by rfl) (by rfl)) rfl rfl rfl) (fun _ => rfl)) (pss_consD (ps_exprD (by exact ⟨rfl, ⟨trivial, trivial⟩⟩) (pe_cappD rfl hlk (pe_varD (by rfl) (vis_of (by rfl)) (by rfl) (by rfl)) (pa_consD (fun _ => by decide) pe_strD pa_nilD rfl) rfl rfl rfl rfl) rfl) pss_nilD) pss_nilD)
  · exact (ps_ifD (by exact rfl) (pt_valD (pe_isi1D (t := .dict) (by rfl) (by exact c.fr _ m_isinstance) (pe_varD (by rfl) (vis_of (by rfl)) (by rfl) (by rfl)) (pe_ty (by exact tys c) (by rfl) (by rfl)) rfl rfl rfl) (fun _ => rfl)) (pss_consD (ps_forD (t := (.one 2)) ownD rfl hN (.one (nameOk_of rfl rfl)) (by exact ⟨rfl, trivial⟩) (by rfl) (pi_seqP (toZ (by decide) (pe_listD rfl hq (by rfl) (by exact c.fr _ m_list) (pa_consD (st := false) (fun h => by cases h) (pe_varD (by rfl) (vis_of (by rfl)) (by rfl) (by rfl)) (pa_nilD (st := false)) rfl) rfl rfl))) (pss_consD (ps_exprD (by exact ⟨⟨rfl, rfl⟩, trivial⟩) (pe_callD (ih 34 _ _ F34) (by exact hr3) (by rfl) (by exact c.gl 34 (by decide)) (by exact F34.kp) (by exact bd_34 F34) (by exact takesD) (by exact (fun h => by cases h)) (by exact (.inr hlk)) (lenN len0) (pa_consD (fun _ => by decide) (pe_ixAD hr3.units (fun _ _ => rfl) (pe_varD (by rfl) (vis_of (by rfl)) (by rfl) (by rfl)) (pe_varD (by rfl) (vis_of (by rfl)) (by rfl) (by rfl))) pa_nilD rfl) (by rfl) (by rfl) (by rfl)) rfl) pss_nilD) (fun _ => rfl)) (pss_consD (ps_csetD rfl hlk (Nat.lt_of_le_of_lt (Nat.add_le_add_left (by decide) _) hr3.units) (by exact rfl) (by exact trivial) (by exact trivial) (by decide) (pe_varD (by rfl) (vis_of (by rfl)) (by rfl) (by rfl)) pe_strD (pe_negD pe_intD) rfl rfl (fun _ => rfl) rfl) pss_nilD)) pss_nilD)
  · exact (ps_retD (by decide) (.inl rfl) (by exact rfl) (pe_varD (by rfl) (vis_of (by rfl)) (by rfl) (by rfl)))
theorem w_35 (c : CS K mg) (g : Gx C nc K G.gv) (ih : Good T P w K mg base G (k + 3) rn) (kc : Con K w mg) (gf : ∀ j, j < nd → G.gv.f j = some (V.ref (He.ga K (T.nm j)))) (lk : Addr → Prop) (cdv : Value) (A : Around) (outer : List Env) (s : Shared) (H : Hp) (E : XK) {f : Addr} (hlk0 : T.pu 35 = true ∨ ∀ a, ¬ lk a) (hr : Room (k + 5) (A.deeper (envOfC (T.nm 35) (defScope (T.st 35)) s.heap.objs.size f cdv))) :
    PSs (cxOf (L2.CX P w) P w K mg base (T.N 35) (T.nm 35) (defScope (T.st 35)) f cdv A outer s H E) (defBody (T.st 35)) (tS (G.L lk) (fun cls d _ H' => E cls d H') (T.pu 35) .z (b_35 rn) (md0 (T.N 35).length (T.ps 35).length) [.z, .z, .x]) := by
  have hN := nd_35
  have hr3 := hr.mono (j := k + 3) (by omega)
  have hu65 := hr3.units65
  have hq := g.hq
  refine pss_consD (m' := [.z, .z, .x]) ?_ (pss_consD (m' := [.z, .z, .x]) ?_ (pss_nilD))
  · exact (ps_forD (t := (.one 2)) ownD rfl hN (.one (nameOk_of rfl rfl)) (by exact ⟨trivial, trivial⟩) (by rfl) (pi_rng1D (by rfl) (by exact c.fr _ m_range) (pa_consD (st := false) (fun h => by cases h) pe_intD (pa_nilD (st := false)) rfl) (lenN len0) rfl) (pss_consD (ps_ifD (by exact ⟨rfl, rfl⟩) (pt_notInD rfl hr3.units65 (pe_varD (by rfl) (vis_of (by rfl)) (by rfl) (by rfl)) (pe_varD (by rfl) (vis_of (by rfl)) (by rfl) (by rfl))) (pss_consD (ps_retD (by decide) (.inl rfl) (by exact rfl) (pe_varD (by rfl) (vis_of (by rfl)) (by rfl) (by rfl))) pss_nilD) pss_nilD) (pss_consD (ps_setD (k := .z) hN (nameOk_of rfl rfl) (by decide) (by exact ⟨⟨⟨trivial, ⟨rfl, trivial⟩⟩, ⟨trivial, ⟨⟨rfl, trivial⟩, trivial⟩⟩⟩, ⟨trivial, ⟨rfl, trivial⟩⟩⟩) (by decide) (pe_addD (pe_addD (pe_ixAD hr3.units (fun _ _ => rfl) pe_strD (pe_modD (pe_varD (by rfl) (vis_of (by rfl)) (by rfl) (by rfl)) pe_intD)) (pe_ixAD hr3.units (fun _ _ => rfl) pe_strD (pe_modD (pe_fdivD (pe_varD (by rfl) (vis_of (by rfl)) (by rfl) (by rfl)) pe_intD) pe_intD))) (pe_ixAD hr3.units (fun _ _ => rfl) pe_strD (pe_fdivD (pe_varD (by rfl) (vis_of (by rfl)) (by rfl) (by rfl)) pe_intD))) rfl) pss_nilD)) (fun _ => rfl))
  · exact (ps_retD (by decide) (.inl rfl) (by exact rfl) (pe_varD (by rfl) (vis_of (by rfl)) (by rfl) (by rfl)))
theorem w_36 (c : CS K mg) (g : Gx C nc K G.gv) (ih : Good T P w K mg base G (k + 3) rn) (kc : Con K w mg) (gf : ∀ j, j < nd → G.gv.f j = some (V.ref (He.ga K (T.nm j)))) (lk : Addr → Prop) (cdv : Value) (A : Around) (outer : List Env) (s : Shared) (H : Hp) (E : XK) {f : Addr} (hlk0 : T.pu 36 = true ∨ ∀ a, ¬ lk a) (hr : Room (k + 5) (A.deeper (envOfC (T.nm 36) (defScope (T.st 36)) s.heap.objs.size f cdv))) :
    PSs (cxOf (L2.CX P w) P w K mg base (T.N 36) (T.nm 36) (defScope (T.st 36)) f cdv A outer s H E) (defBody (T.st 36)) (tS (G.L lk) (fun cls d _ H' => E cls d H') (T.pu 36) .z (b_36 rn) (md0 (T.N 36).length (T.ps 36).length) [.z, .z, .z, .z, .x, .x, .x]) := by
  obtain ⟨fd28, F28⟩ := c.df 28 (by decide)
  obtain ⟨fd35, F35⟩ := c.df 35 (by decide)
  have hN := nd_36
  have hr3 := hr.mono (j := k + 3) (by omega)
  have hu65 := hr3.units65
  have hlk : ∀ a, ¬ lk a := hlk0.resolve_left (by decide)
  have hq := g.hq
  refine pss_consD (m' := [.z, .z, .z, .z, .x, .x, .x]) ?_ (pss_consD (m' := [.z, .z, .z, .z, .x, .x, .x]) ?_ (pss_consD (m' := [.z, .z, .z, .z, .x, .x, .x]) ?_ (pss_nilD)))
  · exact (ps_parD (k := .z) (k' := .z) rfl hN (nameOk_of rfl rfl) (nameOk_of rfl rfl) (by decide) (by decide) (by exact ⟨⟨rfl, ⟨trivial, trivial⟩⟩, trivial⟩) (by exact trivial) (by decide) (by decide) (ps_par rfl hN rfl rfl (by decide) rfl rfl (pa_cons (pe_eqD hr3.units (pe_callD (ih 28 _ _ F28) (by exact hr3) (by rfl) (by exact c.gl 28 (by decide)) (by exact F28.kp) (by exact bd_28 F28) (by exact takesD) (by exact (fun h => by cases h)) (by exact (.inr hlk)) (lenN (lenN len0)) (pa_consD (fun _ => by decide) (pe_varD (by rfl) (vis_of (by rfl)) (by rfl) (by rfl)) (pa_consD (fun _ => by decide) pe_intD pa_nilD rfl) rfl) (by rfl) (by rfl) (by rfl)) pe_intD) (pa_cons (pe_cellD (pe_lstD pa_nilD)) pa_nil rfl) rfl) rfl rfl))
  · exact (ps_forD (t := (.one 4)) ownD rfl hN (.one (nameOk_of rfl rfl)) (by exact ⟨rfl, trivial⟩) (by rfl) (pi_rng1D (by rfl) (by exact c.fr _ m_range) (pa_consD (st := false) (fun h => by cases h) (pe_varD (by rfl) (vis_of (by rfl)) (by rfl) (by rfl)) (pa_nilD (st := false)) rfl) (lenN len0) rfl) (pss_consD (ps_setD (k := .z) hN (nameOk_of rfl rfl) (by decide) (by exact ⟨rfl, ⟨trivial, ⟨rfl, ⟨trivial, trivial⟩⟩⟩, ⟨trivial, ⟨rfl, ⟨trivial, trivial⟩⟩⟩⟩) (by decide) (pe_ifD (pt_valD (pe_varD (by rfl) (vis_of (by rfl)) (by rfl) (by rfl)) (fun _ => rfl)) (pe_ixAD hr3.units (fun _ _ => rfl) pe_strD (pe_callD (ih 28 _ _ F28) (by exact hr3) (by rfl) (by exact c.gl 28 (by decide)) (by exact F28.kp) (by exact bd_28 F28) (by exact takesD) (by exact (fun h => by cases h)) (by exact (.inr hlk)) (lenN (lenN len0)) (pa_consD (fun _ => by decide) (pe_varD (by rfl) (vis_of (by rfl)) (by rfl) (by rfl)) (pa_consD (fun _ => by decide) pe_intD pa_nilD rfl) rfl) (by rfl) (by rfl) (by rfl))) (pe_ixAD hr3.units (fun _ _ => rfl) pe_strD (pe_callD (ih 28 _ _ F28) (by exact hr3) (by rfl) (by exact c.gl 28 (by decide)) (by exact F28.kp) (by exact bd_28 F28) (by exact takesD) (by exact (fun h => by cases h)) (by exact (.inr hlk)) (lenN (lenN len0)) (pa_consD (fun _ => by decide) (pe_varD (by rfl) (vis_of (by rfl)) (by rfl) (by rfl)) (pa_consD (fun _ => by decide) pe_intD pa_nilD rfl) rfl) (by rfl) (by rfl) (by rfl)))) rfl) (pss_consD (ps_forD (t := (.one 6)) ownD rfl hN (.one (nameOk_of rfl rfl)) (by exact ⟨⟨rfl, ⟨⟨rfl, trivial, trivial⟩, trivial⟩⟩, trivial⟩) (by rfl) (pi_rng1D (by rfl) (by exact c.fr _ m_range) (pa_consD (st := false) (fun h => by cases h) (pe_callD (ih 28 _ _ F28) (by exact hr3) (by rfl) (by exact c.gl 28 (by decide)) (by exact F28.kp) (by exact bd_28 F28) (by exact takesD) (by exact (fun h => by cases h)) (by exact (.inr hlk)) (lenN (lenN len0)) (pa_consD (fun _ => by decide) (pe_varD (by rfl) (vis_of (by rfl)) (by rfl) (by rfl)) (pa_consD (fun _ => by decide) (pe_ifD (pt_valD (pe_varD (by rfl) (vis_of (by rfl)) (by rfl) (by rfl)) (fun _ => rfl)) pe_intD pe_intD) pa_nilD rfl) rfl) (by rfl) (by rfl) (by rfl)) (pa_nilD (st := false)) rfl) (lenN len0) rfl) (pss_consD (ps_setD (k := .z) hN (nameOk_of rfl rfl) (by decide) (by exact ⟨rfl, ⟨rfl, ⟨trivial, ⟨rfl, ⟨trivial, trivial⟩⟩⟩, ⟨trivial, ⟨rfl, ⟨trivial, trivial⟩⟩⟩⟩⟩) (by decide) (pe_addD (pe_varD (by rfl) (vis_of (by rfl)) (by rfl) (by rfl)) (pe_ifD (pt_valD (pe_varD (by rfl) (vis_of (by rfl)) (by rfl) (by rfl)) (fun _ => rfl)) (pe_ixAD hr3.units (fun _ _ => rfl) pe_strD (pe_callD (ih 28 _ _ F28) (by exact hr3) (by rfl) (by exact c.gl 28 (by decide)) (by exact F28.kp) (by exact bd_28 F28) (by exact takesD) (by exact (fun h => by cases h)) (by exact (.inr hlk)) (lenN (lenN len0)) (pa_consD (fun _ => by decide) (pe_varD (by rfl) (vis_of (by rfl)) (by rfl) (by rfl)) (pa_consD (fun _ => by decide) pe_intD pa_nilD rfl) rfl) (by rfl) (by rfl) (by rfl))) (pe_ixAD hr3.units (fun _ _ => rfl) pe_strD (pe_callD (ih 28 _ _ F28) (by exact hr3) (by rfl) (by exact c.gl 28 (by decide)) (by exact F28.kp) (by exact bd_28 F28) (by exact takesD) (by exact (fun h => by cases h)) (by exact (.inr hlk)) (lenN (lenN len0)) (pa_consD (fun _ => by decide) (pe_varD (by rfl) (vis_of (by rfl)) (by rfl) (by rfl)) (pa_consD (fun _ => by decide) pe_intD pa_nilD rfl) rfl) (by rfl) (by rfl) (by rfl))))) rfl) pss_nilD) (fun _ => rfl)) (pss_consD (ps_exprD (by exact ⟨rfl, ⟨⟨rfl, ⟨rfl, trivial⟩⟩, trivial⟩⟩) (pe_cappD rfl hlk (pe_varD (by rfl) (vis_of (by rfl)) (by rfl) (by rfl)) (pa_consD (fun _ => by decide) (pe_callD (ih 35 _ _ F35) (by exact hr3) (by rfl) (by exact c.gl 35 (by decide)) (by exact F35.kp) (by exact bd_35 F35) (by exact takesD) (by exact (fun _ => rfl)) (by exact (.inl rfl)) (lenN (lenN len0)) (pa_consD (fun _ => by decide) (pe_varD (by rfl) (vis_of (by rfl)) (by rfl) (by rfl)) (pa_consD (fun _ => by decide) (pe_varD (by rfl) (vis_of (by rfl)) (by rfl) (by rfl)) pa_nilD rfl) rfl) (by rfl) (by rfl) (by rfl)) pa_nilD rfl) rfl rfl rfl rfl) rfl) pss_nilD))) (fun _ => rfl))
  · exact (ps_retD (by decide) (.inl rfl) (by exact rfl) (pe_varD (by rfl) (vis_of (by rfl)) (by rfl) (by rfl)))
theorem w_37 (c : CS K mg) (g : Gx C nc K G.gv) (ih : Good T P w K mg base G (k + 3) rn) (kc : Con K w mg) (gf : ∀ j, j < nd → G.gv.f j = some (V.ref (He.ga K (T.nm j)))) (lk : Addr → Prop) (cdv : Value) (A : Around) (outer : List Env) (s : Shared) (H : Hp) (E : XK) {f : Addr} (hlk0 : T.pu 37 = true ∨ ∀ a, ¬ lk a) (hr : Room (k + 5) (A.deeper (envOfC (T.nm 37) (defScope (T.st 37)) s.heap.objs.size f cdv))) :
    PSs (cxOf (L2.CX P w) P w K mg base (T.N 37) (T.nm 37) (defScope (T.st 37)) f cdv A outer s H E) (defBody (T.st 37)) (tS (G.L lk) (fun cls d _ H' => E cls d H') (T.pu 37) .z (b_37 rn) (md0 (T.N 37).length (T.ps 37).length) [.z, .z]) := by
  obtain ⟨fd28, F28⟩ := c.df 28 (by decide)
  obtain ⟨fd36, F36⟩ := c.df 36 (by decide)
  have hN := nd_37
  have hr3 := hr.mono (j := k + 3) (by omega)
  have hu65 := hr3.units65
  have hlk : ∀ a, ¬ lk a := hlk0.resolve_left (by decide)
  have hq := g.hq
  refine pss_consD (m' := [.z, .z]) ?_ (pss_nilD)
  · exact (ps_retD (by decide) (.inl rfl) (by exact ⟨rfl, ⟨⟨trivial, ⟨rfl, ⟨rfl, trivial⟩⟩⟩, trivial⟩⟩) (pe_callD (ih 36 _ _ F36) (by exact hr3) (by rfl) (by exact c.gl 36 (by decide)) (by exact F36.kp) (by exact bd_36 F36) (by exact takesD) (by exact (fun h => by cases h)) (by exact (.inr hlk)) (lenN (lenN len0)) (pa_consD (fun _ => by decide) (pe_varD (by rfl) (vis_of (by rfl)) (by rfl) (by rfl)) (pa_consD (fun _ => by decide) (pe_addD pe_intD (pe_callD (ih 28 _ _ F28) (by exact hr3) (by rfl) (by exact c.gl 28 (by decide)) (by exact F28.kp) (by exact bd_28 F28) (by exact takesD) (by exact (fun h => by cases h)) (by exact (.inr hlk)) (lenN (lenN len0)) (pa_consD (fun _ => by decide) (pe_varD (by rfl) (vis_of (by rfl)) (by rfl) (by rfl)) (pa_consD (fun _ => by decide) (pe_varD (by rfl) (vis_of (by rfl)) (by rfl) (by rfl)) pa_nilD rfl) rfl) (by rfl) (by rfl) (by rfl))) pa_nilD rfl) rfl) (by rfl) (by rfl) (by rfl)))
theorem w_38 (c : CS K mg) (g : Gx C nc K G.gv) (ih : Good T P w K mg base G (k + 3) rn) (kc : Con K w mg) (gf : ∀ j, j < nd → G.gv.f j = some (V.ref (He.ga K (T.nm j)))) (lk : Addr → Prop) (cdv : Value) (A : Around) (outer : List Env) (s : Shared) (H : Hp) (E : XK) {f : Addr} (hlk0 : T.pu 38 = true ∨ ∀ a, ¬ lk a) (hr : Room (k + 5) (A.deeper (envOfC (T.nm 38) (defScope (T.st 38)) s.heap.objs.size f cdv))) :
    PSs (cxOf (L2.CX P w) P w K mg base (T.N 38) (T.nm 38) (defScope (T.st 38)) f cdv A outer s H E) (defBody (T.st 38)) (tS (G.L lk) (fun cls d _ H' => E cls d H') (T.pu 38) .z (b_38 rn) (md0 (T.N 38).length (T.ps 38).length) [.z, .z, .z, .z]) := by
  obtain ⟨fd28, F28⟩ := c.df 28 (by decide)
  obtain ⟨fd29, F29⟩ := c.df 29 (by decide)
  obtain ⟨fd38, F38⟩ := c.df 38 (by decide)
  have hN := nd_38
  have hr3 := hr.mono (j := k + 3) (by omega)
  have hu65 := hr3.units65
  have hlk : ∀ a, ¬ lk a := hlk0.resolve_left (by decide)
  have hq := g.hq
  refine pss_consD (m' := [.z, .z, .z, .x]) ?_ (pss_consD (m' := [.z, .z, .z, .z]) ?_ (pss_consD (m' := [.z, .z, .z, .z]) ?_ (pss_nilD)))
  · exact (ps_ifD (by exact ⟨rfl, trivial⟩) (pt_eqD hr3.units (pe_varD (by rfl) (vis_of (by rfl)) (by rfl) (by rfl)) pe_intD) (pss_consD (ps_retD (by decide) (.inl rfl) (by exact ⟨⟨rfl, ⟨⟨trivial, ⟨trivial, trivial⟩⟩, trivial⟩⟩, ⟨⟨rfl, ⟨rfl, trivial⟩⟩, trivial⟩⟩) (pe_tupD (pa_consD (fun _ => by decide) (pe_callD (ih 29 _ _ F29) (by exact hr3) (by rfl) (by exact c.gl 29 (by decide)) (by exact F29.kp) (by exact bd_29 F29) (by exact takesD) (by exact (fun h => by cases h)) (by exact (.inr hlk)) (lenN (lenN len0)) (pa_consD (fun _ => by decide) (pe_varD (by rfl) (vis_of (by rfl)) (by rfl) (by rfl)) (pa_consD (fun _ => by decide) (pe_lstD (pa_consD (fun _ => by decide) pe_strD (pa_consD (fun _ => by decide) pe_strD pa_nilD rfl) rfl)) pa_nilD rfl) rfl) (by rfl) (by rfl) (by rfl)) (pa_consD (fun _ => by decide) (pe_callD (ih 29 _ _ F29) (by exact hr3) (by rfl) (by exact c.gl 29 (by decide)) (by exact F29.kp) (by exact bd_29 F29) (by exact takesD) (by exact (fun h => by cases h)) (by exact (.inr hlk)) (lenN (lenN len0)) (pa_consD (fun _ => by decide) (pe_varD (by rfl) (vis_of (by rfl)) (by rfl) (by rfl)) (pa_consD (fun _ => by decide) (pe_varD (by rfl) (vis_of (by rfl)) (by rfl) (by rfl)) pa_nilD rfl) rfl) (by rfl) (by rfl) (by rfl)) pa_nilD rfl) rfl))) pss_nilD) pss_nilD)
  · exact (ps_setD (k := .z) hN (nameOk_of rfl rfl) (by decide) (by exact ⟨trivial, ⟨rfl, ⟨⟨rfl, trivial⟩, trivial⟩⟩⟩) (by decide) (pe_addD pe_intD (pe_callD (ih 28 _ _ F28) (by exact hr3) (by rfl) (by exact c.gl 28 (by decide)) (by exact F28.kp) (by exact bd_28 F28) (by exact takesD) (by exact (fun h => by cases h)) (by exact (.inr hlk)) (lenN (lenN len0)) (pa_consD (fun _ => by decide) (pe_varD (by rfl) (vis_of (by rfl)) (by rfl) (by rfl)) (pa_consD (fun _ => by decide) (pe_subD (pe_varD (by rfl) (vis_of (by rfl)) (by rfl) (by rfl)) pe_intD) pa_nilD rfl) rfl) (by rfl) (by rfl) (by rfl))) rfl)
  · exact (ps_retD (by decide) (.inl rfl) (by exact ⟨⟨rfl, ⟨⟨trivial, ⟨trivial, trivial⟩⟩, trivial⟩⟩, ⟨⟨rfl, ⟨rfl, ⟨rfl, trivial⟩⟩⟩, ⟨⟨rfl, ⟨rfl, ⟨⟨rfl, rfl⟩, trivial⟩⟩⟩, trivial⟩⟩⟩) (pe_tupD (pa_consD (fun _ => by decide) (pe_callD (ih 29 _ _ F29) (by exact hr3) (by rfl) (by exact c.gl 29 (by decide)) (by exact F29.kp) (by exact bd_29 F29) (by exact takesD) (by exact (fun h => by cases h)) (by exact (.inr hlk)) (lenN (lenN len0)) (pa_consD (fun _ => by decide) (pe_varD (by rfl) (vis_of (by rfl)) (by rfl) (by rfl)) (pa_consD (fun _ => by decide) (pe_lstD (pa_consD (fun _ => by decide) pe_strD (pa_consD (fun _ => by decide) pe_strD pa_nilD rfl) rfl)) pa_nilD rfl) rfl) (by rfl) (by rfl) (by rfl)) (pa_consD (fun _ => by decide) (pe_callD (ih 38 _ _ F38) (by exact hr3) (by rfl) (by exact c.gl 38 (by decide)) (by exact F38.kp) (by exact bd_38 F38) (by exact takesD) (by exact (fun h => by cases h)) (by exact (.inr hlk)) (lenN (lenN (lenN len0))) (pa_consD (fun _ => by decide) (pe_varD (by rfl) (vis_of (by rfl)) (by rfl) (by rfl)) (pa_consD (fun _ => by decide) (pe_varD (by rfl) (vis_of (by rfl)) (by rfl) (by rfl)) (pa_consD (fun _ => by decide) (pe_varD (by rfl) (vis_of (by rfl)) (by rfl) (by rfl)) pa_nilD rfl) rfl) rfl) (by rfl) (by rfl) (by rfl)) (pa_consD (fun _ => by decide) (pe_callD (ih 38 _ _ F38) (by exact hr3) (by rfl) (by exact c.gl 38 (by decide)) (by exact F38.kp) (by exact bd_38 F38) (by exact takesD) (by exact (fun h => by cases h)) (by exact (.inr hlk)) (lenN (lenN (lenN len0))) (pa_consD (fun _ => by decide) (pe_varD (by rfl) (vis_of (by rfl)) (by rfl) (by rfl)) (pa_consD (fun _ => by decide) (pe_varD (by rfl) (vis_of (by rfl)) (by rfl) (by rfl)) (pa_consD (fun _ => by decide) (pe_subD (pe_varD (by rfl) (vis_of (by rfl)) (by rfl) (by rfl)) (pe_varD (by rfl) (vis_of (by rfl)) (by rfl) (by rfl))) pa_nilD rfl) rfl) rfl) (by rfl) (by rfl) (by rfl)) pa_nilD rfl) rfl) rfl)))
theorem w_39 (c : CS K mg) (g : Gx C nc K G.gv) (ih : Good T P w K mg base G (k + 3) rn) (kc : Con K w mg) (gf : ∀ j, j < nd → G.gv.f j = some (V.ref (He.ga K (T.nm j)))) (lk : Addr → Prop) (cdv : Value) (A : Around) (outer : List Env) (s : Shared) (H : Hp) (E : XK) {f : Addr} (hlk0 : T.pu 39 = true ∨ ∀ a, ¬ lk a) (hr : Room (k + 5) (A.deeper (envOfC (T.nm 39) (defScope (T.st 39)) s.heap.objs.size f cdv))) :
    PSs (cxOf (L2.CX P w) P w K mg base (T.N 39) (T.nm 39) (defScope (T.st 39)) f cdv A outer s H E) (defBody (T.st 39)) (tS (G.L lk) (fun cls d _ H' => E cls d H') (T.pu 39) .z (b_39 rn) (md0 (T.N 39).length (T.ps 39).length) [.z]) := by
  have hN := nd_39
  have hr3 := hr.mono (j := k + 3) (by omega)
  have hu65 := hr3.units65
  have hq := g.hq
  refine pss_consD (m' := [.z]) ?_ (pss_nilD)
  · exact (ps_retD (by decide) (.inl rfl) (by exact ⟨⟨rfl, trivial⟩, ⟨trivial, ⟨trivial, trivial⟩⟩⟩) (pe_inD rfl hr3.units65 (pe_ixAD hr3.units (fun _ _ => rfl) (pe_varD (by rfl) (vis_of (by rfl)) (by rfl) (by rfl)) pe_intD) (pe_tupD (pa_consD (fun _ => by decide) pe_strD (pa_consD (fun _ => by decide) pe_strD pa_nilD rfl) rfl))))
theorem w_40 (c : CS K mg) (g : Gx C nc K G.gv) (ih : Good T P w K mg base G (k + 3) rn) (kc : Con K w mg) (gf : ∀ j, j < nd → G.gv.f j = some (V.ref (He.ga K (T.nm j)))) (lk : Addr → Prop) (cdv : Value) (A : Around) (outer : List Env) (s : Shared) (H : Hp) (E : XK) {f : Addr} (hlk0 : T.pu 40 = true ∨ ∀ a, ¬ lk a) (hr : Room (k + 5) (A.deeper (envOfC (T.nm 40) (defScope (T.st 40)) s.heap.objs.size f cdv))) :
    PSs (cxOf (L2.CX P w) P w K mg base (T.N 40) (T.nm 40) (defScope (T.st 40)) f cdv A outer s H E) (defBody (T.st 40)) (tS (G.L lk) (fun cls d _ H' => E cls d H') (T.pu 40) .z (b_40 rn) (md0 (T.N 40).length (T.ps 40).length) [.z, .z]) := by
  obtain ⟨fd39, F39⟩ := c.df 39 (by decide)
  obtain ⟨fd40, F40⟩ := c.df 40 (by decide)
  have hN := nd_40
  have hr3 := hr.mono (j := k + 3) (by omega)
  have hu65 := hr3.units65
  have hq := g.hq
  refine pss_consD (m' := [.z, .z]) ?_ (pss_consD (m' := [.z, .z]) ?_ (pss_consD (m' := [.z, .z]) ?_ (pss_nilD)))
  · exact (ps_setD (k := .z) hN (nameOk_of rfl rfl) (by decide) (by exact ⟨⟨⟨trivial, ⟨trivial, trivial⟩⟩, ⟨⟨trivial, ⟨trivial, trivial⟩⟩, ⟨⟨trivial, ⟨trivial, trivial⟩⟩, ⟨⟨trivial, ⟨trivial, trivial⟩⟩, trivial⟩⟩⟩⟩, trivial⟩) (by decide) (toZ (by decide) (pe_dictPD rfl (by rfl) (by exact c.fr _ m_dict) (pa_consD (st := false) (fun h => by cases h) (pe_lstD (pa_consD (fun _ => by decide) (pe_tupD (pa_consD (fun _ => by decide) pe_strD (pa_consD (fun _ => by decide) pe_strD pa_nilD rfl) rfl)) (pa_consD (fun _ => by decide) (pe_tupD (pa_consD (fun _ => by decide) pe_strD (pa_consD (fun _ => by decide) pe_strD pa_nilD rfl) rfl)) (pa_consD (fun _ => by decide) (pe_tupD (pa_consD (fun _ => by decide) pe_strD (pa_consD (fun _ => by decide) pe_strD pa_nilD rfl) rfl)) (pa_consD (fun _ => by decide) (pe_tupD (pa_consD (fun _ => by decide) pe_strD (pa_consD (fun _ => by decide) pe_strD pa_nilD rfl) rfl)) pa_nilD rfl) rfl) rfl) rfl)) (pa_nilD (st := false)) rfl) rfl rfl)) rfl)
  · exact (ps_ifD (by exact ⟨rfl, trivial⟩) (pt_valD (pe_callD (ih 39 _ _ F39) (by exact hr3) (by rfl) (by exact c.gl 39 (by decide)) (by exact F39.kp) (by exact bd_39 F39) (by exact takesD) (by exact (fun _ => rfl)) (by exact (.inl rfl)) (lenN len0) (pa_consD (fun _ => by decide) (pe_varD (by rfl) (vis_of (by rfl)) (by rfl) (by rfl)) pa_nilD rfl) (by rfl) (by rfl) (by rfl)) (fun _ => rfl)) (pss_consD (ps_retD (by decide) (.inl rfl) (by exact ⟨⟨rfl, ⟨rfl, trivial⟩⟩, ⟨⟨rfl, trivial⟩, trivial⟩⟩) (pe_tupD (pa_consD (fun _ => by decide) (pe_ixAD hr3.units (fun _ _ => rfl) (pe_varD (by rfl) (vis_of (by rfl)) (by rfl) (by rfl)) (pe_ixAD hr3.units (fun _ _ => rfl) (pe_varD (by rfl) (vis_of (by rfl)) (by rfl) (by rfl)) pe_intD)) (pa_consD (fun _ => by decide) (pe_ixAD hr3.units (fun _ _ => rfl) (pe_varD (by rfl) (vis_of (by rfl)) (by rfl) (by rfl)) pe_intD) pa_nilD rfl) rfl))) pss_nilD) pss_nilD)
  · exact (ps_retD (by decide) (.inl rfl) (by exact ⟨⟨rfl, ⟨rfl, trivial⟩⟩, ⟨⟨⟨rfl, trivial⟩, trivial⟩, ⟨⟨⟨rfl, trivial⟩, trivial⟩, trivial⟩⟩⟩) (pe_tupD (pa_consD (fun _ => by decide) (pe_ixAD hr3.units (fun _ _ => rfl) (pe_varD (by rfl) (vis_of (by rfl)) (by rfl) (by rfl)) (pe_ixAD hr3.units (fun _ _ => rfl) (pe_varD (by rfl) (vis_of (by rfl)) (by rfl) (by rfl)) pe_intD)) (pa_consD (fun _ => by decide) (pe_callD (ih 40 _ _ F40) (by exact hr3) (by rfl) (by exact c.gl 40 (by decide)) (by exact F40.kp) (by exact bd_40 F40) (by exact takesD) (by exact (fun _ => rfl)) (by exact (.inl rfl)) (lenN len0) (pa_consD (fun _ => by decide) (pe_ixAD hr3.units (fun _ _ => rfl) (pe_varD (by rfl) (vis_of (by rfl)) (by rfl) (by rfl)) pe_intD) pa_nilD rfl) (by rfl) (by rfl) (by rfl)) (pa_consD (fun _ => by decide) (pe_callD (ih 40 _ _ F40) (by exact hr3) (by rfl) (by exact c.gl 40 (by decide)) (by exact F40.kp) (by exact bd_40 F40) (by exact takesD) (by exact (fun _ => rfl)) (by exact (.inl rfl)) (lenN len0) (pa_consD (fun _ => by decide) (pe_ixAD hr3.units (fun _ _ => rfl) (pe_varD (by rfl) (vis_of (by rfl)) (by rfl) (by rfl)) pe_intD) pa_nilD rfl) (by rfl) (by rfl) (by rfl)) pa_nilD rfl) rfl) rfl)))
theorem w_41 (c : CS K mg) (g : Gx C nc K G.gv) (ih : Good T P w K mg base G (k + 3) rn) (kc : Con K w mg) (gf : ∀ j, j < nd → G.gv.f j = some (V.ref (He.ga K (T.nm j)))) (lk : Addr → Prop) (cdv : Value) (A : Around) (outer : List Env) (s : Shared) (H : Hp) (E : XK) {f : Addr} (hlk0 : T.pu 41 = true ∨ ∀ a, ¬ lk a) (hr : Room (k + 5) (A.deeper (envOfC (T.nm 41) (defScope (T.st 41)) s.heap.objs.size f cdv))) :
    PSs (cxOf (L2.CX P w) P w K mg base (T.N 41) (T.nm 41) (defScope (T.st 41)) f cdv A outer s H E) (defBody (T.st 41)) (tS (G.L lk) (fun cls d _ H' => E cls d H') (T.pu 41) .z (b_41 rn) (md0 (T.N 41).length (T.ps 41).length) [.z]) := by
  obtain ⟨fd41, F41⟩ := c.df 41 (by decide)
  obtain ⟨fd42, F42⟩ := c.df 42 (by decide)
  have hN := nd_41
  have hr3 := hr.mono (j := k + 3) (by omega)
  have hu65 := hr3.units65
  have hq := g.hq
  refine pss_consD (m' := [.z]) ?_ (pss_consD (m' := [.z]) ?_ (pss_consD (m' := [.z]) ?_ (pss_nilD)))
  · exact (ps_ifD (by exact ⟨rfl, ⟨⟨⟨rfl, trivial⟩, ⟨trivial, ⟨trivial, trivial⟩⟩⟩, ⟨rfl, trivial⟩⟩⟩) (PW.pt (pw_orD (pt_notD (pt_valD (pe_isiTD (ts := [.list, .tuple]) (by rfl) (by exact c.fr _ m_isinstance) (pe_varD (by rfl) (vis_of (by rfl)) (by rfl) (by rfl)) (tys c) rfl rfl rfl rfl) (fun _ => rfl))) (pw_orD (pt_notInD rfl hr3.units65 (pe_lenD (by rfl) (by exact c.fr _ m_len) (pa_consD (st := false) (fun h => by cases h) (pe_varD (by rfl) (vis_of (by rfl)) (by rfl) (by rfl)) (pa_nilD (st := false)) rfl) rfl rfl) (pe_tupD (pa_consD (fun _ => by decide) pe_intD (pa_consD (fun _ => by decide) pe_intD pa_nilD rfl) rfl))) (pw_or1D (pt_notD (pt_valD (pe_isi1D (t := .str) (by rfl) (by exact c.fr _ m_isinstance) (pe_ixAD hr3.units (fun _ _ => rfl) (pe_varD (by rfl) (vis_of (by rfl)) (by rfl) (by rfl)) pe_intD) (pe_ty (by exact tys c) (by rfl) (by rfl)) rfl rfl rfl) (fun _ => rfl))))))) (pss_consD (ps_retD (by decide) (.inl rfl) (by exact trivial) pe_boolD) pss_nilD) pss_nilD)
  · exact (ps_ifD (by exact ⟨⟨rfl, trivial⟩, trivial⟩) (pt_eqD hr3.units (pe_lenD (by rfl) (by exact c.fr _ m_len) (pa_consD (st := false) (fun h => by cases h) (pe_varD (by rfl) (vis_of (by rfl)) (by rfl) (by rfl)) (pa_nilD (st := false)) rfl) rfl rfl) pe_intD) (pss_consD (ps_retD (by decide) (.inl rfl) (by exact ⟨⟨⟨rfl, trivial⟩, ⟨trivial, ⟨trivial, trivial⟩⟩⟩, ⟨⟨rfl, trivial⟩, trivial⟩⟩) (pe_andD (pe_inD rfl hr3.units65 (pe_ixAD hr3.units (fun _ _ => rfl) (pe_varD (by rfl) (vis_of (by rfl)) (by rfl) (by rfl)) pe_intD) (pe_tupD (pa_consD (fun _ => by decide) pe_strD (pa_consD (fun _ => by decide) pe_strD pa_nilD rfl) rfl))) (pe_and1D (pe_callD (ih 42 _ _ F42) (by exact hr3) (by rfl) (by exact c.gl 42 (by decide)) (by exact F42.kp) (by exact bd_42 F42) (by exact takesD) (by exact (fun _ => rfl)) (by exact (.inl rfl)) (lenN len0) (pa_consD (fun _ => by decide) (pe_ixAD hr3.units (fun _ _ => rfl) (pe_varD (by rfl) (vis_of (by rfl)) (by rfl) (by rfl)) pe_intD) pa_nilD rfl) (by rfl) (by rfl) (by rfl))))) pss_nilD) pss_nilD)
  · exact (ps_retD (by decide) (.inl rfl) (by exact ⟨⟨⟨rfl, trivial⟩, ⟨trivial, ⟨trivial, trivial⟩⟩⟩, ⟨⟨⟨rfl, trivial⟩, trivial⟩, ⟨⟨rfl, trivial⟩, trivial⟩⟩⟩) (pe_andD (pe_inD rfl hr3.units65 (pe_ixAD hr3.units (fun _ _ => rfl) (pe_varD (by rfl) (vis_of (by rfl)) (by rfl) (by rfl)) pe_intD) (pe_tupD (pa_consD (fun _ => by decide) pe_strD (pa_consD (fun _ => by decide) pe_strD pa_nilD rfl) rfl))) (pe_andD (pe_callD (ih 41 _ _ F41) (by exact hr3) (by rfl) (by exact c.gl 41 (by decide)) (by exact F41.kp) (by exact bd_41 F41) (by exact takesD) (by exact (fun _ => rfl)) (by exact (.inl rfl)) (lenN len0) (pa_consD (fun _ => by decide) (pe_ixAD hr3.units (fun _ _ => rfl) (pe_varD (by rfl) (vis_of (by rfl)) (by rfl) (by rfl)) pe_intD) pa_nilD rfl) (by rfl) (by rfl) (by rfl)) (pe_and1D (pe_callD (ih 41 _ _ F41) (by exact hr3) (by rfl) (by exact c.gl 41 (by decide)) (by exact F41.kp) (by exact bd_41 F41) (by exact takesD) (by exact (fun _ => rfl)) (by exact (.inl rfl)) (lenN len0) (pa_consD (fun _ => by decide) (pe_ixAD hr3.units (fun _ _ => rfl) (pe_varD (by rfl) (vis_of (by rfl)) (by rfl) (by rfl)) pe_intD) pa_nilD rfl) (by rfl) (by rfl) (by rfl))))))
theorem w_42 (c : CS K mg) (g : Gx C nc K G.gv) (ih : Good T P w K mg base G (k + 3) rn) (kc : Con K w mg) (gf : ∀ j, j < nd → G.gv.f j = some (V.ref (He.ga K (T.nm j)))) (lk : Addr → Prop) (cdv : Value) (A : Around) (outer : List Env) (s : Shared) (H : Hp) (E : XK) {f : Addr} (hlk0 : T.pu 42 = true ∨ ∀ a, ¬ lk a) (hr : Room (k + 5) (A.deeper (envOfC (T.nm 42) (defScope (T.st 42)) s.heap.objs.size f cdv))) :
    PSs (cxOf (L2.CX P w) P w K mg base (T.N 42) (T.nm 42) (defScope (T.st 42)) f cdv A outer s H E) (defBody (T.st 42)) (tS (G.L lk) (fun cls d _ H' => E cls d H') (T.pu 42) .z (b_42 rn) (md0 (T.N 42).length (T.ps 42).length) [.z, .x]) := by
  have hN := nd_42
  have hr3 := hr.mono (j := k + 3) (by omega)
  have hu65 := hr3.units65
  have hq := g.hq
  refine pss_consD (m' := [.z, .x]) ?_ (pss_nilD)
  · exact (ps_retD (by decide) (.inl rfl) (by exact ⟨rfl, ⟨⟨trivial, ⟨rfl, trivial⟩, trivial⟩, ⟨⟨rfl, trivial, ⟨rfl, trivial⟩⟩, trivial⟩⟩⟩) (pe_andD (pe_isi1D (t := .str) (by rfl) (by exact c.fr _ m_isinstance) (pe_varD (by rfl) (vis_of (by rfl)) (by rfl) (by rfl)) (pe_ty (by exact tys c) (by rfl) (by rfl)) rfl rfl rfl) (pe_andD (pe_chainD op_le op_le (ints_ok0 fun _ _ _ _ _ => .bl _) (ints_ok0 fun _ _ _ _ _ => .bl _) pe_intD (pe_lenD (by rfl) (by exact c.fr _ m_len) (pa_consD (st := false) (fun h => by cases h) (pe_varD (by rfl) (vis_of (by rfl)) (by rfl) (by rfl)) (pa_nilD (st := false)) rfl) rfl rfl) pe_intD (by rfl)) (pe_and1D (pe_allD rfl (by rfl) (by exact c.fr _ m_all) (pa_consD (st := false) (fun h => by cases h) (pe_lcD (own := [("sign", 1)]) (t := (.one 1)) rfl hN (blkOk_by rfl) (by decide) (by decide) (pi_seqP (pe_varD (by rfl) (vis_of (by rfl)) (by rfl) (by rfl))) (fun _ _ _ _ _ => (.one (nameOk_of rfl rfl))) (fun _ _ _ _ _ => pts_nilD) (fun _ _ _ _ _ => (pe_inD rfl hr3.units65 (pe_varD (by rfl) (vis_of (by rfl)) (by rfl) (by rfl)) pe_strD)) (fun _ => rfl)) (pa_nilD (st := false)) rfl) rfl rfl)))))
theorem w_43 (c : CS K mg) (g : Gx C nc K G.gv) (ih : Good T P w K mg base G (k + 3) rn) (kc : Con K w mg) (gf : ∀ j, j < nd → G.gv.f j = some (V.ref (He.ga K (T.nm j)))) (lk : Addr → Prop) (cdv : Value) (A : Around) (outer : List Env) (s : Shared) (H : Hp) (E : XK) {f : Addr} (hlk0 : T.pu 43 = true ∨ ∀ a, ¬ lk a) (hr : Room (k + 5) (A.deeper (envOfC (T.nm 43) (defScope (T.st 43)) s.heap.objs.size f cdv))) :
    PSs (cxOf (L2.CX P w) P w K mg base (T.N 43) (T.nm 43) (defScope (T.st 43)) f cdv A outer s H E) (defBody (T.st 43)) (tS (G.L lk) (fun cls d _ H' => E cls d H') (T.pu 43) .z (b_43 rn) (md0 (T.N 43).length (T.ps 43).length) [.z]) := by
  obtain ⟨fd39, F39⟩ := c.df 39 (by decide)
  obtain ⟨fd43, F43⟩ := c.df 43 (by decide)
  have hN := nd_43
  have hr3 := hr.mono (j := k + 3) (by omega)
  have hu65 := hr3.units65
  have hq := g.hq
  refine pss_consD (m' := [.z]) ?_ (pss_nilD)
  · exact (ps_retD (by decide) (.inl rfl) (by exact ⟨⟨rfl, trivial⟩, ⟨rfl, trivial⟩, ⟨⟨⟨rfl, trivial⟩, trivial⟩, ⟨⟨rfl, trivial⟩, trivial⟩⟩⟩) (toZ (by decide) (pe_ifD (pt_valD (pe_callD (ih 39 _ _ F39) (by exact hr3) (by rfl) (by exact c.gl 39 (by decide)) (by exact F39.kp) (by exact bd_39 F39) (by exact takesD) (by exact (fun _ => rfl)) (by exact (.inl rfl)) (lenN len0) (pa_consD (fun _ => by decide) (pe_varD (by rfl) (vis_of (by rfl)) (by rfl) (by rfl)) pa_nilD rfl) (by rfl) (by rfl) (by rfl)) (fun _ => rfl)) (pe_lstD (pa_consD (fun _ => by decide) (pe_varD (by rfl) (vis_of (by rfl)) (by rfl) (by rfl)) pa_nilD rfl)) (pe_catD (pe_callD (ih 43 _ _ F43) (by exact hr3) (by rfl) (by exact c.gl 43 (by decide)) (by exact F43.kp) (by exact bd_43 F43) (by exact takesD) (by exact (fun _ => rfl)) (by exact (.inl rfl)) (lenN len0) (pa_consD (fun _ => by decide) (pe_ixAD hr3.units (fun _ _ => rfl) (pe_varD (by rfl) (vis_of (by rfl)) (by rfl) (by rfl)) pe_intD) pa_nilD rfl) (by rfl) (by rfl) (by rfl)) (pe_callD (ih 43 _ _ F43) (by exact hr3) (by rfl) (by exact c.gl 43 (by decide)) (by exact F43.kp) (by exact bd_43 F43) (by exact takesD) (by exact (fun _ => rfl)) (by exact (.inl rfl)) (lenN len0) (pa_consD (fun _ => by decide) (pe_ixAD hr3.units (fun _ _ => rfl) (pe_varD (by rfl) (vis_of (by rfl)) (by rfl) (by rfl)) pe_intD) pa_nilD rfl) (by rfl) (by rfl) (by rfl))))))
theorem w_44 (c : CS K mg) (g : Gx C nc K G.gv) (ih : Good T P w K mg base G (k + 3) rn) (kc : Con K w mg) (gf : ∀ j, j < nd → G.gv.f j = some (V.ref (He.ga K (T.nm j)))) (lk : Addr → Prop) (cdv : Value) (A : Around) (outer : List Env) (s : Shared) (H : Hp) (E : XK) {f : Addr} (hlk0 : T.pu 44 = true ∨ ∀ a, ¬ lk a) (hr : Room (k + 5) (A.deeper (envOfC (T.nm 44) (defScope (T.st 44)) s.heap.objs.size f cdv))) :
    PSs (cxOf (L2.CX P w) P w K mg base (T.N 44) (T.nm 44) (defScope (T.st 44)) f cdv A outer s H E) (defBody (T.st 44)) (tS (G.L lk) (fun cls d _ H' => E cls d H') (T.pu 44) .z (b_44 rn) (md0 (T.N 44).length (T.ps 44).length) [.z, .x]) := by
  obtain ⟨fd39, F39⟩ := c.df 39 (by decide)
  obtain ⟨fd44, F44⟩ := c.df 44 (by decide)
  have hN := nd_44
  have hr3 := hr.mono (j := k + 3) (by omega)
  have hu65 := hr3.units65
  have hq := g.hq
  refine pss_consD (m' := [.z, .x]) ?_ (pss_consD (m' := [.z, .x]) ?_ (pss_nilD))
  · exact (ps_ifD (by exact ⟨rfl, trivial⟩) (pt_valD (pe_callD (ih 39 _ _ F39) (by exact hr3) (by rfl) (by exact c.gl 39 (by decide)) (by exact F39.kp) (by exact bd_39 F39) (by exact takesD) (by exact (fun _ => rfl)) (by exact (.inl rfl)) (lenN len0) (pa_consD (fun _ => by decide) (pe_varD (by rfl) (vis_of (by rfl)) (by rfl) (by rfl)) pa_nilD rfl) (by rfl) (by rfl) (by rfl)) (fun _ => rfl)) (pss_consD (ps_retD (by decide) (.inl rfl) (by exact ⟨trivial, trivial⟩) (toZ (by decide) (pe_lstD (pa_consD (fun _ => by decide) (pe_lstD pa_nilD) pa_nilD rfl)))) pss_nilD) pss_nilD)
  · exact (ps_retD (by decide) (.inl rfl) (by exact ⟨⟨⟨trivial, trivial⟩, ⟨⟨⟨rfl, trivial⟩, trivial⟩, trivial, ⟨⟨trivial, trivial⟩, rfl⟩⟩⟩, ⟨⟨⟨rfl, trivial⟩, trivial⟩, trivial, ⟨⟨trivial, trivial⟩, rfl⟩⟩⟩) (toZ (by decide) (pe_catD (pe_catD (pe_lstD (pa_consD (fun _ => by decide) (pe_lstD pa_nilD) pa_nilD rfl)) (pe_lcD (own := [("place", 1)]) (t := (.one 1)) rfl hN (blkOk_by rfl) (by decide) (by decide) (pi_seqP (pe_callD (ih 44 _ _ F44) (by exact hr3) (by rfl) (by exact c.gl 44 (by decide)) (by exact F44.kp) (by exact bd_44 F44) (by exact takesD) (by exact (fun _ => rfl)) (by exact (.inl rfl)) (lenN len0) (pa_consD (fun _ => by decide) (pe_ixAD hr3.units (fun _ _ => rfl) (pe_varD (by rfl) (vis_of (by rfl)) (by rfl) (by rfl)) pe_intD) pa_nilD rfl) (by rfl) (by rfl) (by rfl))) (fun _ _ _ _ _ => (.one (nameOk_of rfl rfl))) (fun _ _ _ _ _ => pts_nilD) (fun _ _ _ _ _ => (toZ (by decide) (pe_catD (pe_lstD (pa_consD (fun _ => by decide) pe_intD pa_nilD rfl)) (pe_varD (by rfl) (vis_of (by rfl)) (by rfl) (by rfl))))) (fun _ => rfl))) (pe_lcD (own := [("place", 1)]) (t := (.one 1)) rfl hN (blkOk_by rfl) (by decide) (by decide) (pi_seqP (pe_callD (ih 44 _ _ F44) (by exact hr3) (by rfl) (by exact c.gl 44 (by decide)) (by exact F44.kp) (by exact bd_44 F44) (by exact takesD) (by exact (fun _ => rfl)) (by exact (.inl rfl)) (lenN len0) (pa_consD (fun _ => by decide) (pe_ixAD hr3.units (fun _ _ => rfl) (pe_varD (by rfl) (vis_of (by rfl)) (by rfl) (by rfl)) pe_intD) pa_nilD rfl) (by rfl) (by rfl) (by rfl))) (fun _ _ _ _ _ => (.one (nameOk_of rfl rfl))) (fun _ _ _ _ _ => pts_nilD) (fun _ _ _ _ _ => (toZ (by decide) (pe_catD (pe_lstD (pa_consD (fun _ => by decide) pe_intD pa_nilD rfl)) (pe_varD (by rfl) (vis_of (by rfl)) (by rfl) (by rfl))))) (fun _ => rfl)))))
theorem w_45 (c : CS K mg) (g : Gx C nc K G.gv) (ih : Good T P w K mg base G (k + 3) rn) (kc : Con K w mg) (gf : ∀ j, j < nd → G.gv.f j = some (V.ref (He.ga K (T.nm j)))) (lk : Addr → Prop) (cdv : Value) (A : Around) (outer : List Env) (s : Shared) (H : Hp) (E : XK) {f : Addr} (hlk0 : T.pu 45 = true ∨ ∀ a, ¬ lk a) (hr : Room (k + 5) (A.deeper (envOfC (T.nm 45) (defScope (T.st 45)) s.heap.objs.size f cdv))) :
    PSs (cxOf (L2.CX P w) P w K mg base (T.N 45) (T.nm 45) (defScope (T.st 45)) f cdv A outer s H E) (defBody (T.st 45)) (tS (G.L lk) (fun cls d _ H' => E cls d H') (T.pu 45) .z (b_45 rn) (md0 (T.N 45).length (T.ps 45).length) [.z, .z, .x]) := by
  have hN := nd_45
  have hr3 := hr.mono (j := k + 3) (by omega)
  have hu65 := hr3.units65
  have hq := g.hq
  refine pss_consD (m' := [.z, .z, .x]) ?_ (pss_consD (m' := [.z, .z, .x]) ?_ (pss_nilD))
  · exact (ps_forD (t := (.one 2)) ownD rfl hN (.one (nameOk_of rfl rfl)) (by exact rfl) (by rfl) (pi_seqP (pe_varD (by rfl) (vis_of (by rfl)) (by rfl) (by rfl))) (pss_consD (ps_setD (k := .z) hN (nameOk_of rfl rfl) (by decide) (by exact ⟨rfl, ⟨trivial, rfl⟩⟩) (by decide) (pe_ixAD hr3.units (fun _ _ => rfl) (pe_varD (by rfl) (vis_of (by rfl)) (by rfl) (by rfl)) (pe_addD pe_intD (pe_varD (by rfl) (vis_of (by rfl)) (by rfl) (by rfl)))) rfl) pss_nilD) (fun _ => rfl))
  · exact (ps_retD (by decide) (.inl rfl) (by exact rfl) (pe_varD (by rfl) (vis_of (by rfl)) (by rfl) (by rfl)))
theorem w_46 (c : CS K mg) (g : Gx C nc K G.gv) (ih : Good T P w K mg base G (k + 3) rn) (kc : Con K w mg) (gf : ∀ j, j < nd → G.gv.f j = some (V.ref (He.ga K (T.nm j)))) (lk : Addr → Prop) (cdv : Value) (A : Around) (outer : List Env) (s : Shared) (H : Hp) (E : XK) {f : Addr} (hlk0 : T.pu 46 = true ∨ ∀ a, ¬ lk a) (hr : Room (k + 5) (A.deeper (envOfC (T.nm 46) (defScope (T.st 46)) s.heap.objs.size f cdv))) :
    PSs (cxOf (L2.CX P w) P w K mg base (T.N 46) (T.nm 46) (defScope (T.st 46)) f cdv A outer s H E) (defBody (T.st 46)) (tS (G.L lk) (fun cls d _ H' => E cls d H') (T.pu 46) .z (b_46 rn) (md0 (T.N 46).length (T.ps 46).length) [.z, .z, .z]) := by
  obtain ⟨fd46, F46⟩ := c.df 46 (by decide)
  have hN := nd_46
  have hr3 := hr.mono (j := k + 3) (by omega)
  have hu65 := hr3.units65
  have hq := g.hq
  refine pss_consD (m' := [.z, .z, .z]) ?_ (pss_consD (m' := [.z, .z, .z]) ?_ (pss_consD (m' := [.z, .z, .z]) ?_ (pss_nilD)))
  · exact (ps_ifD (by exact ⟨rfl, trivial⟩) (pt_eqD hr3.units (pe_varD (by rfl) (vis_of (by rfl)) (by rfl) (by rfl)) (pe_lstD pa_nilD)) (pss_consD (ps_retD (by decide) (.inl rfl) (by exact rfl) (pe_varD (by rfl) (vis_of (by rfl)) (by rfl) (by rfl))) pss_nilD) pss_nilD)
  · exact (ps_ifD (by exact ⟨⟨rfl, trivial⟩, trivial⟩) (pt_eqD hr3.units (pe_ixAD hr3.units (fun _ _ => rfl) (pe_varD (by rfl) (vis_of (by rfl)) (by rfl) (by rfl)) pe_intD) pe_intD) (pss_consD (ps_retD (by decide) (.inl rfl) (by exact ⟨⟨rfl, trivial⟩, ⟨⟨⟨rfl, trivial⟩, ⟨⟨rfl, trivial, trivial⟩, ⟨rfl, trivial⟩⟩⟩, ⟨⟨rfl, trivial⟩, trivial⟩⟩⟩) (pe_tupD (pa_consD (fun _ => by decide) (pe_ixAD hr3.units (fun _ _ => rfl) (pe_varD (by rfl) (vis_of (by rfl)) (by rfl) (by rfl)) pe_intD) (pa_consD (fun _ => by decide) (pe_callD (ih 46 _ _ F46) (by exact hr3) (by rfl) (by exact c.gl 46 (by decide)) (by exact F46.kp) (by exact bd_46 F46) (by exact takesD) (by exact (fun _ => rfl)) (by exact (.inl rfl)) (lenN (lenN (lenN len0))) (pa_consD (fun _ => by decide) (pe_ixAD hr3.units (fun _ _ => rfl) (pe_varD (by rfl) (vis_of (by rfl)) (by rfl) (by rfl)) pe_intD) (pa_consD (fun _ => by decide) (pe_slLD (pe_varD (by rfl) (vis_of (by rfl)) (by rfl) (by rfl)) (po_someD pe_intD) po_noneD) (pa_consD (fun _ => by decide) (pe_varD (by rfl) (vis_of (by rfl)) (by rfl) (by rfl)) pa_nilD rfl) rfl) rfl) (by rfl) (by rfl) (by rfl)) (pa_consD (fun _ => by decide) (pe_ixAD hr3.units (fun _ _ => rfl) (pe_varD (by rfl) (vis_of (by rfl)) (by rfl) (by rfl)) pe_intD) pa_nilD rfl) rfl) rfl))) pss_nilD) pss_nilD)
  · exact (ps_retD (by decide) (.inl rfl) (by exact ⟨⟨rfl, trivial⟩, ⟨⟨rfl, trivial⟩, ⟨⟨⟨rfl, trivial⟩, ⟨⟨rfl, trivial, trivial⟩, ⟨rfl, trivial⟩⟩⟩, trivial⟩⟩⟩) (pe_tupD (pa_consD (fun _ => by decide) (pe_ixAD hr3.units (fun _ _ => rfl) (pe_varD (by rfl) (vis_of (by rfl)) (by rfl) (by rfl)) pe_intD) (pa_consD (fun _ => by decide) (pe_ixAD hr3.units (fun _ _ => rfl) (pe_varD (by rfl) (vis_of (by rfl)) (by rfl) (by rfl)) pe_intD) (pa_consD (fun _ => by decide) (pe_callD (ih 46 _ _ F46) (by exact hr3) (by rfl) (by exact c.gl 46 (by decide)) (by exact F46.kp) (by exact bd_46 F46) (by exact takesD) (by exact (fun _ => rfl)) (by exact (.inl rfl)) (lenN (lenN (lenN len0))) (pa_consD (fun _ => by decide) (pe_ixAD hr3.units (fun _ _ => rfl) (pe_varD (by rfl) (vis_of (by rfl)) (by rfl) (by rfl)) pe_intD) (pa_consD (fun _ => by decide) (pe_slLD (pe_varD (by rfl) (vis_of (by rfl)) (by rfl) (by rfl)) (po_someD pe_intD) po_noneD) (pa_consD (fun _ => by decide) (pe_varD (by rfl) (vis_of (by rfl)) (by rfl) (by rfl)) pa_nilD rfl) rfl) rfl) (by rfl) (by rfl) (by rfl)) pa_nilD rfl) rfl) rfl)))
theorem w_47 (c : CS K mg) (g : Gx C nc K G.gv) (ih : Good T P w K mg base G (k + 3) rn) (kc : Con K w mg) (gf : ∀ j, j < nd → G.gv.f j = some (V.ref (He.ga K (T.nm j)))) (lk : Addr → Prop) (cdv : Value) (A : Around) (outer : List Env) (s : Shared) (H : Hp) (E : XK) {f : Addr} (hlk0 : T.pu 47 = true ∨ ∀ a, ¬ lk a) (hr : Room (k + 5) (A.deeper (envOfC (T.nm 47) (defScope (T.st 47)) s.heap.objs.size f cdv))) :
    PSs (cxOf (L2.CX P w) P w K mg base (T.N 47) (T.nm 47) (defScope (T.st 47)) f cdv A outer s H E) (defBody (T.st 47)) (tS (G.L lk) (fun cls d _ H' => E cls d H') (T.pu 47) .z (b_47 rn) (md0 (T.N 47).length (T.ps 47).length) [.z, .x, .x]) := by
  have hN := nd_47
  have hr3 := hr.mono (j := k + 3) (by omega)
  have hu65 := hr3.units65
  have hq := g.hq
  refine pss_consD (m' := [.z, .x, .x]) ?_ (pss_consD (m' := [.z, .x, .x]) ?_ (pss_nilD))
  · exact ps_stuck
  · exact ps_stuck
theorem w_48 (c : CS K mg) (g : Gx C nc K G.gv) (ih : Good T P w K mg base G (k + 3) rn) (kc : Con K w mg) (gf : ∀ j, j < nd → G.gv.f j = some (V.ref (He.ga K (T.nm j)))) (lk : Addr → Prop) (cdv : Value) (A : Around) (outer : List Env) (s : Shared) (H : Hp) (E : XK) {f : Addr} (hlk0 : T.pu 48 = true ∨ ∀ a, ¬ lk a) (hr : Room (k + 5) (A.deeper (envOfC (T.nm 48) (defScope (T.st 48)) s.heap.objs.size f cdv))) :
    PSs (cxOf (L2.CX P w) P w K mg base (T.N 48) (T.nm 48) (defScope (T.st 48)) f cdv A outer s H E) (defBody (T.st 48)) (tS (G.L lk) (fun cls d _ H' => E cls d H') (T.pu 48) .z (b_48 rn) (md0 (T.N 48).length (T.ps 48).length) [.z]) := by
  obtain ⟨fd39, F39⟩ := c.df 39 (by decide)
  obtain ⟨fd48, F48⟩ := c.df 48 (by decide)
  have hN := nd_48
  have hr3 := hr.mono (j := k + 3) (by omega)
  have hu65 := hr3.units65
  have hq := g.hq
  refine pss_consD (m' := [.z]) ?_ (pss_nilD)
  · exact (ps_retD (by decide) (.inl rfl) (by exact ⟨⟨rfl, trivial⟩, trivial, ⟨trivial, ⟨⟨⟨⟨rfl, trivial⟩, trivial⟩, ⟨⟨⟨rfl, trivial⟩, trivial⟩, trivial⟩⟩, trivial⟩⟩⟩) (pe_ifD (pt_valD (pe_callD (ih 39 _ _ F39) (by exact hr3) (by rfl) (by exact c.gl 39 (by decide)) (by exact F39.kp) (by exact bd_39 F39) (by exact takesD) (by exact (fun _ => rfl)) (by exact (.inl rfl)) (lenN len0) (pa_consD (fun _ => by decide) (pe_varD (by rfl) (vis_of (by rfl)) (by rfl) (by rfl)) pa_nilD rfl) (by rfl) (by rfl) (by rfl)) (fun _ => rfl)) pe_intD (pe_addD pe_intD (pe_maxlD rfl (by rfl) (by exact c.fr _ m_max) (pa_consD (st := false) (fun h => by cases h) (pe_lstD (pa_consD (fun _ => by decide) (pe_callD (ih 48 _ _ F48) (by exact hr3) (by rfl) (by exact c.gl 48 (by decide)) (by exact F48.kp) (by exact bd_48 F48) (by exact takesD) (by exact (fun _ => rfl)) (by exact (.inl rfl)) (lenN len0) (pa_consD (fun _ => by decide) (pe_ixAD hr3.units (fun _ _ => rfl) (pe_varD (by rfl) (vis_of (by rfl)) (by rfl) (by rfl)) pe_intD) pa_nilD rfl) (by rfl) (by rfl) (by rfl)) (pa_consD (fun _ => by decide) (pe_callD (ih 48 _ _ F48) (by exact hr3) (by rfl) (by exact c.gl 48 (by decide)) (by exact F48.kp) (by exact bd_48 F48) (by exact takesD) (by exact (fun _ => rfl)) (by exact (.inl rfl)) (lenN len0) (pa_consD (fun _ => by decide) (pe_ixAD hr3.units (fun _ _ => rfl) (pe_varD (by rfl) (vis_of (by rfl)) (by rfl) (by rfl)) pe_intD) pa_nilD rfl) (by rfl) (by rfl) (by rfl)) pa_nilD rfl) rfl)) (pa_nilD (st := false)) rfl) rfl rfl))))
theorem w_49 (c : CS K mg) (g : Gx C nc K G.gv) (ih : Good T P w K mg base G (k + 3) rn) (kc : Con K w mg) (gf : ∀ j, j < nd → G.gv.f j = some (V.ref (He.ga K (T.nm j)))) (lk : Addr → Prop) (cdv : Value) (A : Around) (outer : List Env) (s : Shared) (H : Hp) (E : XK) {f : Addr} (hlk0 : T.pu 49 = true ∨ ∀ a, ¬ lk a) (hr : Room (k + 5) (A.deeper (envOfC (T.nm 49) (defScope (T.st 49)) s.heap.objs.size f cdv))) :
    PSs (cxOf (L2.CX P w) P w K mg base (T.N 49) (T.nm 49) (defScope (T.st 49)) f cdv A outer s H E) (defBody (T.st 49)) (tS (G.L lk) (fun cls d _ H' => E cls d H') (T.pu 49) .z (b_49 rn) (md0 (T.N 49).length (T.ps 49).length) [.z, .z, .o]) := by
  obtain ⟨fd28, F28⟩ := c.df 28 (by decide)
  obtain ⟨fd29, F29⟩ := c.df 29 (by decide)
  obtain ⟨fd49, F49⟩ := c.df 49 (by decide)
  have hN := nd_49
  have hr3 := hr.mono (j := k + 3) (by omega)
  have hu65 := hr3.units65
  have hlk : ∀ a, ¬ lk a := hlk0.resolve_left (by decide)
  have hq := g.hq
  refine pss_consD (m' := [.z, .z, .x]) ?_ (pss_consD (m' := [.z, .z, .o]) ?_ (pss_consD (m' := [.z, .z, .o]) ?_ (pss_consD (m' := [.z, .z, .o]) ?_ (pss_nilD))))
  · exact (ps_ifD (by exact ⟨⟨⟨rfl, trivial⟩, trivial⟩, ⟨⟨rfl, ⟨trivial, trivial⟩⟩, trivial⟩⟩) (PW.pt (pw_andD (pt_eqD hr3.units (pe_lenD (by rfl) (by exact c.fr _ m_len) (pa_consD (st := false) (fun h => by cases h) (pe_varD (by rfl) (vis_of (by rfl)) (by rfl) (by rfl)) (pa_nilD (st := false)) rfl) rfl rfl) pe_intD) (pw_and1D (pt_eqD hr3.units (pe_callD (ih 28 _ _ F28) (by exact hr3) (by rfl) (by exact c.gl 28 (by decide)) (by exact F28.kp) (by exact bd_28 F28) (by exact takesD) (by exact (fun h => by cases h)) (by exact (.inr hlk)) (lenN (lenN len0)) (pa_consD (fun _ => by decide) (pe_varD (by rfl) (vis_of (by rfl)) (by rfl) (by rfl)) (pa_consD (fun _ => by decide) pe_intD pa_nilD rfl) rfl) (by rfl) (by rfl) (by rfl)) pe_intD)))) (pss_consD (ps_retD (by decide) (.inl rfl) (by exact ⟨⟨⟨rfl, ⟨trivial, trivial⟩⟩, trivial⟩, ⟨⟨rfl, trivial⟩, ⟨⟨rfl, ⟨⟨rfl, trivial⟩, trivial⟩⟩, ⟨⟨rfl, trivial⟩, trivial⟩⟩⟩, ⟨⟨rfl, trivial⟩, ⟨⟨rfl, trivial⟩, ⟨⟨rfl, ⟨⟨rfl, trivial⟩, trivial⟩⟩, trivial⟩⟩⟩⟩) (pe_ifD (pt_eqD hr3.units (pe_callD (ih 28 _ _ F28) (by exact hr3) (by rfl) (by exact c.gl 28 (by decide)) (by exact F28.kp) (by exact bd_28 F28) (by exact takesD) (by exact (fun h => by cases h)) (by exact (.inr hlk)) (lenN (lenN len0)) (pa_consD (fun _ => by decide) (pe_varD (by rfl) (vis_of (by rfl)) (by rfl) (by rfl)) (pa_consD (fun _ => by decide) pe_intD pa_nilD rfl) rfl) (by rfl) (by rfl) (by rfl)) pe_intD) (pe_tupD (pa_consD (fun _ => by decide) (pe_ixAD hr3.units (fun _ _ => rfl) (pe_varD (by rfl) (vis_of (by rfl)) (by rfl) (by rfl)) pe_intD) (pa_consD (fun _ => by decide) (pe_callD (ih 49 _ _ F49) (by exact hr3) (by rfl) (by exact c.gl 49 (by decide)) (by exact F49.kp) (by exact bd_49 F49) (by exact takesD) (by exact (fun h => by cases h)) (by exact (.inr hlk)) (lenN (lenN len0)) (pa_consD (fun _ => by decide) (pe_varD (by rfl) (vis_of (by rfl)) (by rfl) (by rfl)) (pa_consD (fun _ => by decide) (pe_ixAD hr3.units (fun _ _ => rfl) (pe_varD (by rfl) (vis_of (by rfl)) (by rfl) (by rfl)) pe_intD) pa_nilD rfl) rfl) (by rfl) (by rfl) (by rfl)) (pa_consD (fun _ => by decide) (pe_ixAD hr3.units (fun _ _ => rfl) (pe_varD (by rfl) (vis_of (by rfl)) (by rfl) (by rfl)) pe_intD) pa_nilD rfl) rfl) rfl)) (pe_tupD (pa_consD (fun _ => by decide) (pe_ixAD hr3.units (fun _ _ => rfl) (pe_varD (by rfl) (vis_of (by rfl)) (by rfl) (by rfl)) pe_intD) (pa_consD (fun _ => by decide) (pe_ixAD hr3.units (fun _ _ => rfl) (pe_varD (by rfl) (vis_of (by rfl)) (by rfl) (by rfl)) pe_intD) (pa_consD (fun _ => by decide) (pe_callD (ih 49 _ _ F49) (by exact hr3) (by rfl) (by exact c.gl 49 (by decide)) (by exact F49.kp) (by exact bd_49 F49) (by exact takesD) (by exact (fun h => by cases h)) (by exact (.inr hlk)) (lenN (lenN len0)) (pa_consD (fun _ => by decide) (pe_varD (by rfl) (vis_of (by rfl)) (by rfl) (by rfl)) (pa_consD (fun _ => by decide) (pe_ixAD hr3.units (fun _ _ => rfl) (pe_varD (by rfl) (vis_of (by rfl)) (by rfl) (by rfl)) pe_intD) pa_nilD rfl) rfl) (by rfl) (by rfl) (by rfl)) pa_nilD rfl) rfl) rfl)))) pss_nilD) pss_nilD)
  · exact (ps_setD (k := .o) hN (nameOk_of rfl rfl) (by decide) (by exact ⟨trivial, ⟨trivial, ⟨trivial, ⟨trivial, ⟨⟨trivial, trivial⟩, ⟨⟨trivial, ⟨trivial, ⟨trivial, trivial⟩⟩⟩, ⟨⟨trivial, ⟨trivial, trivial⟩⟩, ⟨⟨trivial, ⟨trivial, trivial⟩⟩, ⟨⟨trivial, ⟨trivial, trivial⟩⟩, ⟨⟨trivial, ⟨trivial, trivial⟩⟩, ⟨⟨trivial, ⟨trivial, trivial⟩⟩, ⟨⟨trivial, ⟨rfl, trivial⟩⟩, ⟨⟨trivial, ⟨rfl, ⟨trivial, trivial⟩⟩⟩, trivial⟩⟩⟩⟩⟩⟩⟩⟩⟩⟩⟩⟩⟩) (by decide) (pe_lstD (pa_consD (fun _ => by decide) pe_nonD (pa_consD (fun _ => by decide) pe_intD (pa_consD (fun _ => by decide) (pe_tupD pa_nilD) (pa_consD (fun _ => by decide) pe_strD (pa_consD (fun _ => by decide) (pe_tupD (pa_consD (fun _ => by decide) pe_strD pa_nilD rfl)) (pa_consD (fun _ => by decide) (pe_tupD (pa_consD (fun _ => by decide) pe_strD (pa_consD (fun _ => by decide) pe_strD (pa_consD (fun _ => by decide) pe_strD pa_nilD rfl) rfl) rfl)) (pa_consD (fun _ => by decide) (pe_tupD (pa_consD (fun _ => by decide) pe_strD (pa_consD (fun _ => by decide) pe_strD pa_nilD rfl) rfl)) (pa_consD (fun _ => by decide) (pe_tupD (pa_consD (fun _ => by decide) pe_strD (pa_consD (fun _ => by decide) pe_strD pa_nilD rfl) rfl)) (pa_consD (fun _ => by decide) (pe_tupD (pa_consD (fun _ => by decide) pe_strD (pa_consD (fun _ => by decide) pe_strD pa_nilD rfl) rfl)) (pa_consD (fun _ => by decide) (pe_tupD (pa_consD (fun _ => by decide) pe_strD (pa_consD (fun _ => by decide) pe_strD pa_nilD rfl) rfl)) (pa_consD (fun _ => by decide) (pe_tupD (pa_consD (fun _ => by decide) pe_strD (pa_consD (fun _ => by decide) pe_intD pa_nilD rfl) rfl)) (pa_consD (fun _ => by decide) (pe_tupD (pa_consD (fun _ => by decide) pe_strD (pa_consD (fun _ => by decide) (pe_varD (by rfl) (vis_of (by rfl)) (by rfl) (by rfl)) pa_nilD rfl) rfl)) (pa_consD (fun _ => by decide) (pe_tupD (pa_consD (fun _ => by decide) pe_strD (pa_consD (fun _ => by decide) (pe_varD (by rfl) (vis_of (by rfl)) (by rfl) (by rfl)) (pa_consD (fun _ => by decide) pe_nonD pa_nilD rfl) rfl) rfl)) pa_nilD rfl) rfl) rfl) rfl) rfl) rfl) rfl) rfl) rfl) rfl) rfl) rfl) rfl)) rfl)
  · exact (ps_extD rfl (vis_of rfl) rfl rfl rfl (by exact ⟨⟨⟨trivial, ⟨rfl, ⟨rfl, ⟨rfl, trivial⟩⟩⟩⟩, ⟨⟨trivial, ⟨rfl, ⟨rfl, trivial⟩⟩⟩, ⟨⟨trivial, ⟨rfl, ⟨rfl, trivial⟩⟩⟩, ⟨⟨rfl, trivial⟩, ⟨trivial, ⟨⟨rfl, trivial⟩, ⟨⟨trivial, ⟨trivial, trivial⟩⟩, ⟨⟨trivial, ⟨trivial, ⟨trivial, trivial⟩⟩⟩, trivial⟩⟩⟩⟩⟩⟩⟩⟩, trivial⟩) (pa_consD (fun _ => by decide) (pe_lstD (pa_consD (fun _ => by decide) (pe_tupD (pa_consD (fun _ => by decide) pe_strD (pa_consD (fun _ => by decide) (pe_varD (by rfl) (vis_of (by rfl)) (by rfl) (by rfl)) (pa_consD (fun _ => by decide) (pe_varD (by rfl) (vis_of (by rfl)) (by rfl) (by rfl)) (pa_consD (fun _ => by decide) (pe_varD (by rfl) (vis_of (by rfl)) (by rfl) (by rfl)) pa_nilD rfl) rfl) rfl) rfl)) (pa_consD (fun _ => by decide) (pe_tupD (pa_consD (fun _ => by decide) pe_strD (pa_consD (fun _ => by decide) (pe_varD (by rfl) (vis_of (by rfl)) (by rfl) (by rfl)) (pa_consD (fun _ => by decide) (pe_varD (by rfl) (vis_of (by rfl)) (by rfl) (by rfl)) pa_nilD rfl) rfl) rfl)) (pa_consD (fun _ => by decide) (pe_tupD (pa_consD (fun _ => by decide) pe_nonD (pa_consD (fun _ => by decide) (pe_varD (by rfl) (vis_of (by rfl)) (by rfl) (by rfl)) (pa_consD (fun _ => by decide) (pe_varD (by rfl) (vis_of (by rfl)) (by rfl) (by rfl)) pa_nilD rfl) rfl) rfl)) (pa_consD (fun _ => by decide) (pe_tupD (pa_consD (fun _ => by decide) (pe_varD (by rfl) (vis_of (by rfl)) (by rfl) (by rfl)) pa_nilD rfl)) (pa_consD (fun _ => by decide) (pe_dnewD false) (pa_consD (fun _ => by decide) (pe_ixAD hr3.units (fun _ _ => rfl) (pe_varD (by rfl) (vis_of (by rfl)) (by rfl) (by rfl)) pe_intD) (pa_consD (fun _ => by decide) (pe_tupD (pa_consD (fun _ => by decide) pe_strD (pa_consD (fun _ => by decide) pe_strD pa_nilD rfl) rfl)) (pa_consD (fun _ => by decide) (pe_tupD (pa_consD (fun _ => by decide) pe_strD (pa_consD (fun _ => by decide) pe_strD (pa_consD (fun _ => by decide) pe_strD pa_nilD rfl) rfl) rfl)) pa_nilD rfl) rfl) rfl) rfl) rfl) rfl) rfl) rfl)) pa_nilD rfl) rfl rfl rfl rfl rfl)
  · exact (ts_frz [2] (ps_retD (by decide) (.inl rfl) (by exact ⟨rfl, ⟨rfl, trivial⟩⟩) (pe_callD (ih 29 _ _ F29) (by exact hr3) (by rfl) (by exact c.gl 29 (by decide)) (by exact F29.kp) (by exact bd_29 F29) (by exact takesD) (by exact (fun h => by cases h)) (by exact (.inr hlk)) (lenN (lenN len0)) (pa_consD (fun _ => by decide) (pe_varD (by rfl) (vis_of (by rfl)) (by rfl) (by rfl)) (pa_consD (fun _ => by decide) (pe_varD (by rfl) (vis_of (by rfl)) (by rfl) (by rfl)) pa_nilD rfl) rfl) (by rfl) (by rfl) (by rfl))))
theorem w_50 (c : CS K mg) (g : Gx C nc K G.gv) (ih : Good T P w K mg base G (k + 3) rn) (kc : Con K w mg) (gf : ∀ j, j < nd → G.gv.f j = some (V.ref (He.ga K (T.nm j)))) (lk : Addr → Prop) (cdv : Value) (A : Around) (outer : List Env) (s : Shared) (H : Hp) (E : XK) {f : Addr} (hlk0 : T.pu 50 = true ∨ ∀ a, ¬ lk a) {cA PA : Addr} (hcd : cdv = .ref cA) (tb : LamX.TabB base mg cA PA) (hmT : (PA, qlam 50) ∈ G.gv.T) (hu : ∀ p ∈ G.gv.T, p.1 = PA → p.2 = qlam 50) (hr : Room (k + 5) (A.deeper (envOfC (T.nm 50) (defScope (T.st 50)) s.heap.objs.size f cdv))) :
    PSs (cxOf (L2.CX P w) P w K mg base (T.N 50) (T.nm 50) (defScope (T.st 50)) f cdv A outer s H E) (defBody (T.st 50)) (tS (G.L lk) (fun cls d _ H' => E cls d H') (T.pu 50) .z (b_50 rn) (md0 (T.N 50).length (T.ps 50).length) [.z, .z, .z, .x, .x, .x, .x, .x, .x, .x]) := by
  obtain ⟨fd24, F24⟩ := c.df 24 (by decide)
  obtain ⟨fd26, F26⟩ := c.df 26 (by decide)
  obtain ⟨fd28, F28⟩ := c.df 28 (by decide)
  obtain ⟨fd29, F29⟩ := c.df 29 (by decide)
  obtain ⟨fd31, F31⟩ := c.df 31 (by decide)
  obtain ⟨fd33, F33⟩ := c.df 33 (by decide)
  obtain ⟨fd38, F38⟩ := c.df 38 (by decide)
  obtain ⟨fd44, F44⟩ := c.df 44 (by decide)
  obtain ⟨fd45, F45⟩ := c.df 45 (by decide)
  obtain ⟨fd46, F46⟩ := c.df 46 (by decide)
  obtain ⟨fd47, F47⟩ := c.df 47 (by decide)
  have hN := nd_50
  subst hcd
  have hr3 := hr.mono (j := k + 3) (by omega)
  have hu65 := hr3.units65
  have hlk : ∀ a, ¬ lk a := hlk0.resolve_left (by decide)
  have hq := g.hq
  refine pss_consD (m' := [.z, .z, .z, .x, .x, .x, .x, .x, .x, .x]) ?_ (pss_consD (m' := [.z, .z, .z, .x, .x, .x, .x, .x, .x, .x]) ?_ (pss_consD (m' := [.z, .z, .z, .x, .x, .x, .x, .x, .x, .x]) ?_ (pss_nilD)))
  · exact (ps_setD (k := .z) hN (nameOk_of rfl rfl) (by decide) (by exact ⟨rfl, trivial⟩) (by decide) (pe_callD (ih 44 _ _ F44) (by exact hr3) (by rfl) (by exact c.gl 44 (by decide)) (by exact F44.kp) (by exact bd_44 F44) (by exact takesD) (by exact (fun _ => rfl)) (by exact (.inl rfl)) (lenN len0) (pa_consD (fun _ => by decide) (pe_varD (by rfl) (vis_of (by rfl)) (by rfl) (by rfl)) pa_nilD rfl) (by rfl) (by rfl) (by rfl)) rfl)
  · exact (ps_forD (t := (.one 3)) ownD rfl hN (.one (nameOk_of rfl rfl)) (by exact ⟨trivial, trivial⟩) (by rfl) (pi_rng1D (by rfl) (by exact c.fr _ m_range) (pa_consD (st := false) (fun h => by cases h) pe_intD (pa_nilD (st := false)) rfl) (lenN len0) rfl) (pss_consD (ps_tgtD (t := .tup [4, 5]) rfl hN (.tup (.cons ⟨_, _, rfl, nameOk_of rfl rfl⟩ (.cons ⟨_, _, rfl, nameOk_of rfl rfl⟩ .nil))) (by exact ⟨⟨rfl, ⟨rfl, trivial⟩⟩, ⟨⟨rfl, ⟨⟨trivial, ⟨trivial, trivial⟩⟩, ⟨⟨trivial, ⟨rfl, ⟨trivial, trivial⟩⟩⟩, trivial⟩⟩⟩, trivial⟩⟩) (pe_tupD (pa_consD (fun _ => by decide) (pe_callD (ih 29 _ _ F29) (by exact hr3) (by rfl) (by exact c.gl 29 (by decide)) (by exact F29.kp) (by exact bd_29 F29) (by exact takesD) (by exact (fun h => by cases h)) (by exact (.inr hlk)) (lenN (lenN len0)) (pa_consD (fun _ => by decide) (pe_varD (by rfl) (vis_of (by rfl)) (by rfl) (by rfl)) (pa_consD (fun _ => by decide) (pe_varD (by rfl) (vis_of (by rfl)) (by rfl) (by rfl)) pa_nilD rfl) rfl) (by rfl) (by rfl) (by rfl)) (pa_consD (fun _ => by decide) (pe_callD (ih 38 _ _ F38) (by exact hr3) (by rfl) (by exact c.gl 38 (by decide)) (by exact F38.kp) (by exact bd_38 F38) (by exact takesD) (by exact (fun h => by cases h)) (by exact (.inr hlk)) (lenN (lenN (lenN len0))) (pa_consD (fun _ => by decide) (pe_varD (by rfl) (vis_of (by rfl)) (by rfl) (by rfl)) (pa_consD (fun _ => by decide) (pe_lstD (pa_consD (fun _ => by decide) pe_strD (pa_consD (fun _ => by decide) pe_strD pa_nilD rfl) rfl)) (pa_consD (fun _ => by decide) (pe_addD pe_intD (pe_callD (ih 28 _ _ F28) (by exact hr3) (by rfl) (by exact c.gl 28 (by decide)) (by exact F28.kp) (by exact bd_28 F28) (by exact takesD) (by exact (fun h => by cases h)) (by exact (.inr hlk)) (lenN (lenN len0)) (pa_consD (fun _ => by decide) (pe_varD (by rfl) (vis_of (by rfl)) (by rfl) (by rfl)) (pa_consD (fun _ => by decide) pe_intD pa_nilD rfl) rfl) (by rfl) (by rfl) (by rfl))) pa_nilD rfl) rfl) rfl) (by rfl) (by rfl) (by rfl)) pa_nilD rfl) rfl)) rfl rfl) (pss_consD (ps_parD (k := .z) (k' := .z) rfl hN (nameOk_of rfl rfl) (nameOk_of rfl rfl) (by decide) (by decide) (by exact ⟨rfl, ⟨rfl, trivial⟩⟩) (by exact ⟨rfl, ⟨rfl, ⟨rfl, trivial⟩⟩⟩) (by decide) (by decide) (ps_par rfl hN rfl rfl (by decide) rfl rfl (pa_cons (pe_callD (ih 45 _ _ F45) (by exact hr3) (by rfl) (by exact c.gl 45 (by decide)) (by exact F45.kp) (by exact bd_45 F45) (by exact takesD) (by exact (fun _ => rfl)) (by exact (.inl rfl)) (lenN (lenN len0)) (pa_consD (fun _ => by decide) (pe_varD (by rfl) (vis_of (by rfl)) (by rfl) (by rfl)) (pa_consD (fun _ => by decide) (pe_varD (by rfl) (vis_of (by rfl)) (by rfl) (by rfl)) pa_nilD rfl) rfl) (by rfl) (by rfl) (by rfl)) (pa_cons (pe_callD (ih 46 _ _ F46) (by exact hr3) (by rfl) (by exact c.gl 46 (by decide)) (by exact F46.kp) (by exact bd_46 F46) (by exact takesD) (by exact (fun _ => rfl)) (by exact (.inl rfl)) (lenN (lenN (lenN len0))) (pa_consD (fun _ => by decide) (pe_varD (by rfl) (vis_of (by rfl)) (by rfl) (by rfl)) (pa_consD (fun _ => by decide) (pe_varD (by rfl) (vis_of (by rfl)) (by rfl) (by rfl)) (pa_consD (fun _ => by decide) (pe_varD (by rfl) (vis_of (by rfl)) (by rfl) (by rfl)) pa_nilD rfl) rfl) rfl) (by rfl) (by rfl) (by rfl)) pa_nil rfl) rfl) rfl rfl)) (pss_consD (ps_setD (k := .z) hN (nameOk_of rfl rfl) (by decide) (by exact ⟨⟨⟨rfl, ⟨rfl, trivial⟩⟩, ⟨⟨rfl, ⟨rfl, trivial⟩⟩, trivial⟩⟩, ⟨⟨⟨rfl, ⟨rfl, trivial⟩⟩, ⟨⟨rfl, ⟨rfl, trivial⟩⟩, ⟨⟨rfl, ⟨rfl, trivial⟩⟩, trivial⟩⟩⟩, trivial⟩⟩) (by decide) (toZ (by decide) (pe_lstD (pa_consD (fun _ => by decide) (pe_callD (ih 24 _ _ F24) (by exact hr3) (by rfl) (by exact c.gl 24 (by decide)) (by exact F24.kp) (by exact bd_24 F24) (by exact takesD) (by exact (fun _ => rfl)) (by exact (.inl rfl)) (lenN (lenN len0)) (pa_consD (fun _ => by decide) (pe_callD (ih 33 _ _ F33) (by exact hr3) (by rfl) (by exact c.gl 33 (by decide)) (by exact F33.kp) (by exact bd_33 F33) (by exact takesD) (by exact (fun h => by cases h)) (by exact (.inr hlk)) (lenN (lenN len0)) (pa_consD (fun _ => by decide) (pe_varD (by rfl) (vis_of (by rfl)) (by rfl) (by rfl)) (pa_consD (fun _ => by decide) (pe_varD (by rfl) (vis_of (by rfl)) (by rfl) (by rfl)) pa_nilD rfl) rfl) (by rfl) (by rfl) (by rfl)) (pa_consD (fun _ => by decide) (pe_callD (ih 33 _ _ F33) (by exact hr3) (by rfl) (by exact c.gl 33 (by decide)) (by exact F33.kp) (by exact bd_33 F33) (by exact takesD) (by exact (fun h => by cases h)) (by exact (.inr hlk)) (lenN (lenN len0)) (pa_consD (fun _ => by decide) (pe_varD (by rfl) (vis_of (by rfl)) (by rfl) (by rfl)) (pa_consD (fun _ => by decide) (pe_varD (by rfl) (vis_of (by rfl)) (by rfl) (by rfl)) pa_nilD rfl) rfl) (by rfl) (by rfl) (by rfl)) pa_nilD rfl) rfl) (by rfl) (by rfl) (by rfl)) (pa_consD (fun _ => by decide) (pe_callD (ih 26 _ _ F26) (by exact hr3) (by rfl) (by exact c.gl 26 (by decide)) (by exact F26.kp) (by exact bd_26 F26) (by exact takesD) (by exact (fun _ => rfl)) (by exact (.inl rfl)) (lenN (lenN (lenN len0))) (pa_consD (fun _ => by decide) (pe_callD (ih 33 _ _ F33) (by exact hr3) (by rfl) (by exact c.gl 33 (by decide)) (by exact F33.kp) (by exact bd_33 F33) (by exact takesD) (by exact (fun h => by cases h)) (by exact (.inr hlk)) (lenN (lenN len0)) (pa_consD (fun _ => by decide) (pe_varD (by rfl) (vis_of (by rfl)) (by rfl) (by rfl)) (pa_consD (fun _ => by decide) (pe_varD (by rfl) (vis_of (by rfl)) (by rfl) (by rfl)) pa_nilD rfl) rfl) (by rfl) (by rfl) (by rfl)) (pa_consD (fun _ => by decide) (pe_callD (ih 33 _ _ F33) (by exact hr3) (by rfl) (by exact c.gl 33 (by decide)) (by exact F33.kp) (by exact bd_33 F33) (by exact takesD) (by exact (fun h => by cases h)) (by exact (.inr hlk)) (lenN (lenN len0)) (pa_consD (fun _ => by decide) (pe_varD (by rfl) (vis_of (by rfl)) (by rfl) (by rfl)) (pa_consD (fun _ => by decide) (pe_varD (by rfl) (vis_of (by rfl)) (by rfl) (by rfl)) pa_nilD rfl) rfl) (by rfl) (by rfl) (by rfl)) (pa_consD (fun _ => by decide) (pe_callD (ih 33 _ _ F33) (by exact hr3) (by rfl) (by exact c.gl 33 (by decide)) (by exact F33.kp) (by exact bd_33 F33) (by exact takesD) (by exact (fun h => by cases h)) (by exact (.inr hlk)) (lenN (lenN len0)) (pa_consD (fun _ => by decide) (pe_varD (by rfl) (vis_of (by rfl)) (by rfl) (by rfl)) (pa_consD (fun _ => by decide) (pe_varD (by rfl) (vis_of (by rfl)) (by rfl) (by rfl)) pa_nilD rfl) rfl) (by rfl) (by rfl) (by rfl)) pa_nilD rfl) rfl) rfl) (by rfl) (by rfl) (by rfl)) pa_nilD rfl) rfl))) rfl) (pss_consD (ps_ifD (by exact ⟨rfl, ⟨⟨rfl, ⟨rfl, trivial⟩⟩, trivial⟩⟩) (pt_notD (pt_valD (pe_callD (ih 31 _ _ F31) (by exact hr3) (by rfl) (by exact c.gl 31 (by decide)) (by exact F31.kp) (by exact bd_31 F31) (by exact takesD) (by exact (fun _ => rfl)) (by exact (.inl rfl)) (lenN (lenN len0)) (pa_consD (fun _ => by decide) (pe_varD (by rfl) (vis_of (by rfl)) (by rfl) (by rfl)) (pa_consD (fun _ => by decide) (pe_lstD (pa_consD (fun _ => by decide) (pe_varD (by rfl) (vis_of (by rfl)) (by rfl) (by rfl)) (pa_consD (fun _ => by decide) (pe_varD (by rfl) (vis_of (by rfl)) (by rfl) (by rfl)) pa_nilD rfl) rfl)) pa_nilD rfl) rfl) (by rfl) (by rfl) (by rfl)) (fun _ => rfl))) (pss_consD (ps_retD (by decide) (.inl rfl) (by exact trivial) pe_boolD) pss_nilD) pss_nilD) (pss_consD (ps_ifD (by exact ⟨⟨⟨rfl, ⟨rfl, trivial⟩⟩, ⟨⟨rfl, ⟨rfl, ⟨rfl, trivial⟩⟩⟩, trivial⟩⟩, ⟨⟨rfl, ⟨rfl, trivial⟩⟩, trivial⟩⟩) (pt_notD (pt_valD (pe_callD (ih 31 _ _ F31) (by exact hr3) (by rfl) (by exact c.gl 31 (by decide)) (by exact F31.kp) (by exact bd_31 F31) (by exact takesD) (by exact (fun _ => rfl)) (by exact (.inl rfl)) (lenN (lenN len0)) (pa_consD (fun _ => by decide) (pe_lstD (pa_consD (fun _ => by decide) (pe_callKR (ih 24 _ _ F24) (by exact hr3) (by rfl) (by exact c.gl 24 (by decide)) (by exact F24.kp) (by exact kr_24 F24) (by exact takesD) (by exact (fun _ => rfl)) (by exact (.inl rfl)) (lenN (lenN len0)) (pk_consD (by decide) (pe_varD (by rfl) (vis_of (by rfl)) (by rfl) (by rfl)) (pk_consD (by decide) (pe_varD (by rfl) (vis_of (by rfl)) (by rfl) (by rfl)) pk_nilD)) (by rfl) (by rfl) (by rfl) (by rfl)) (pa_consD (fun _ => by decide) (pe_callKR (ih 26 _ _ F26) (by exact hr3) (by rfl) (by exact c.gl 26 (by decide)) (by exact F26.kp) (by exact kr_26 F26) (by exact takesD) (by exact (fun _ => rfl)) (by exact (.inl rfl)) (lenN (lenN (lenN len0))) (pk_consD (by decide) (pe_varD (by rfl) (vis_of (by rfl)) (by rfl) (by rfl)) (pk_consD (by decide) (pe_varD (by rfl) (vis_of (by rfl)) (by rfl) (by rfl)) (pk_consD (by decide) (pe_varD (by rfl) (vis_of (by rfl)) (by rfl) (by rfl)) pk_nilD))) (by rfl) (by rfl) (by rfl) (by rfl)) pa_nilD rfl) rfl)) (pa_consD (fun _ => by decide) (pe_lstD (pa_consD (fun _ => by decide) (pe_varD (by rfl) (vis_of (by rfl)) (by rfl) (by rfl)) (pa_consD (fun _ => by decide) (pe_varD (by rfl) (vis_of (by rfl)) (by rfl) (by rfl)) pa_nilD rfl) rfl)) pa_nilD rfl) rfl) (by rfl) (by rfl) (by rfl)) (fun _ => rfl))) (pss_consD (ps_retD (by decide) (.inl rfl) (by exact trivial) pe_boolD) pss_nilD) pss_nilD) (pss_consD (ps_forD (t := (.one 9)) ownD rfl hN (.one (nameOk_of rfl rfl)) (by exact ⟨trivial, ⟨trivial, ⟨⟨trivial, trivial⟩, ⟨⟨trivial, trivial⟩, ⟨⟨trivial, trivial⟩, ⟨⟨trivial, trivial⟩, ⟨trivial, ⟨⟨rfl, ⟨⟨trivial, trivial⟩, trivial⟩⟩, ⟨trivial, trivial⟩⟩⟩⟩⟩⟩⟩⟩⟩) (by rfl) (pi_seqP (pe_tupD (pa_consD (fun _ => by decide) pe_nonD (pa_consD (fun _ => by decide) pe_intD (pa_consD (fun _ => by decide) (pe_lstD (pa_consD (fun _ => by decide) pe_intD pa_nilD rfl)) (pa_consD (fun _ => by decide) (pe_lstD (pa_consD (fun _ => by decide) (pe_negD pe_intD) pa_nilD rfl)) (pa_consD (fun _ => by decide) (pe_lstD (pa_consD (fun _ => by decide) pe_boolD pa_nilD rfl)) (pa_consD (fun _ => by decide) (pe_lstD (pa_consD (fun _ => by decide) pe_strD pa_nilD rfl)) (pa_consD (fun _ => by decide) pe_strD (pa_consD (fun _ => by decide) (pe_catD (pe_varD (by rfl) (vis_of (by rfl)) (by rfl) (by rfl)) (pe_repD (pe_lstD (pa_consD (fun _ => by decide) pe_intD pa_nilD rfl)) pe_intD)) (pa_consD (fun _ => by decide) (pe_dnewD false) pa_nilD rfl) rfl) rfl) rfl) rfl) rfl) rfl) rfl) rfl))) (pss_consD (ps_ifD (by exact ⟨⟨rfl, ⟨rfl, trivial⟩⟩, ⟨⟨trivial, ⟨trivial, ⟨rfl, trivial⟩⟩⟩, trivial⟩⟩) (pt_notD (pt_valD (pe_callD (ih 31 _ _ F31) (by exact hr3) (by rfl) (by exact c.gl 31 (by decide)) (by exact F31.kp) (by exact bd_31 F31) (by exact takesD) (by exact (fun _ => rfl)) (by exact (.inl rfl)) (lenN (lenN len0)) (pa_consD (fun _ => by decide) (pe_toldD (told_ok c g.L) (by rfl) (by rfl) (by exact c.gl 47 (by decide)) F47 (bd_47 F47) sc_47 rfl (vis_of rfl) (fun cdv => toldG c.cg rfl rfl) tb rfl (by exact hmT) (by exact hu) (by exact hr) (lamS_by (by rfl)) (by rfl) (fun _ _ _ _ _ => by rfl) (fun _ _ _ _ _ _ _ hr2 => (pe_callD (ih 24 _ _ F24) (by exact hr2) (by rfl) (by exact c.gl 24 (by decide)) (by exact F24.kp) (by exact bd_24 F24) (by exact takesL) (by exact (fun _ => rfl)) (by exact (.inl rfl)) (lenN (lenN len0)) (pa_consD (fun _ => by decide) (pe_varD (by rfl) (vis_of (by rfl)) (by rfl) (by rfl)) (pa_consD (fun _ => by decide) (pe_varD (by rfl) (vis_of (by rfl)) (by rfl) (by rfl)) pa_nilD rfl) rfl) (by rfl) (by rfl) (by rfl))) (by rfl) (by rfl) (by rfl)) (pa_consD (fun _ => by decide) (pe_tupD (pa_consD (fun _ => by decide) pe_strD (pa_consD (fun _ => by decide) pe_strD (pa_consD (fun _ => by decide) (pe_varD (by rfl) (vis_of (by rfl)) (by rfl) (by rfl)) pa_nilD rfl) rfl) rfl)) pa_nilD rfl) rfl) (by rfl) (by rfl) (by rfl)) (fun _ => rfl))) (pss_consD (ps_retD (by decide) (.inl rfl) (by exact trivial) pe_boolD) pss_nilD) pss_nilD) (pss_consD (ps_ifD (by exact ⟨⟨rfl, ⟨rfl, ⟨trivial, trivial⟩⟩⟩, ⟨⟨trivial, ⟨trivial, ⟨rfl, trivial⟩⟩⟩, trivial⟩⟩) (pt_notD (pt_valD (pe_callD (ih 31 _ _ F31) (by exact hr3) (by rfl) (by exact c.gl 31 (by decide)) (by exact F31.kp) (by exact bd_31 F31) (by exact takesD) (by exact (fun _ => rfl)) (by exact (.inl rfl)) (lenN (lenN len0)) (pa_consD (fun _ => by decide) (pe_toldD (told_ok c g.L) (by rfl) (by rfl) (by exact c.gl 47 (by decide)) F47 (bd_47 F47) sc_47 rfl (vis_of rfl) (fun cdv => toldG c.cg rfl rfl) tb rfl (by exact hmT) (by exact hu) (by exact hr) (lamS_by (by rfl)) (by rfl) (fun _ _ _ _ _ => by rfl) (fun _ _ _ _ _ _ _ hr2 => (pe_callD (ih 26 _ _ F26) (by exact hr2) (by rfl) (by exact c.gl 26 (by decide)) (by exact F26.kp) (by exact bd_26 F26) (by exact takesL) (by exact (fun _ => rfl)) (by exact (.inl rfl)) (lenN (lenN (lenN len0))) (pa_consD (fun _ => by decide) (pe_varD (by rfl) (vis_of (by rfl)) (by rfl) (by rfl)) (pa_consD (fun _ => by decide) (pe_varD (by rfl) (vis_of (by rfl)) (by rfl) (by rfl)) (pa_consD (fun _ => by decide) pe_nonD pa_nilD rfl) rfl) rfl) (by rfl) (by rfl) (by rfl))) (by rfl) (by rfl) (by rfl)) (pa_consD (fun _ => by decide) (pe_tupD (pa_consD (fun _ => by decide) pe_strD (pa_consD (fun _ => by decide) pe_strD (pa_consD (fun _ => by decide) (pe_varD (by rfl) (vis_of (by rfl)) (by rfl) (by rfl)) pa_nilD rfl) rfl) rfl)) pa_nilD rfl) rfl) (by rfl) (by rfl) (by rfl)) (fun _ => rfl))) (pss_consD (ps_retD (by decide) (.inl rfl) (by exact trivial) pe_boolD) pss_nilD) pss_nilD) pss_nilD)) (fun _ => rfl)) (pss_consD (ps_forD (t := (.one 9)) ownD rfl hN (.one (nameOk_of rfl rfl)) (by exact ⟨trivial, ⟨trivial, ⟨trivial, ⟨⟨trivial, trivial⟩, ⟨⟨trivial, ⟨trivial, trivial⟩⟩, ⟨⟨rfl, trivial⟩, trivial⟩⟩⟩⟩⟩⟩) (by rfl) (pi_seqP (pe_tupD (pa_consD (fun _ => by decide) pe_nonD (pa_consD (fun _ => by decide) pe_intD (pa_consD (fun _ => by decide) (pe_tupD pa_nilD) (pa_consD (fun _ => by decide) (pe_tupD (pa_consD (fun _ => by decide) pe_strD pa_nilD rfl)) (pa_consD (fun _ => by decide) (pe_tupD (pa_consD (fun _ => by decide) pe_strD (pa_consD (fun _ => by decide) pe_strD pa_nilD rfl) rfl)) (pa_consD (fun _ => by decide) (pe_lstD (pa_consD (fun _ => by decide) (pe_varD (by rfl) (vis_of (by rfl)) (by rfl) (by rfl)) pa_nilD rfl)) pa_nilD rfl) rfl) rfl) rfl) rfl) rfl))) (pss_consD (ps_ifD (by exact ⟨⟨rfl, ⟨rfl, ⟨rfl, trivial⟩⟩⟩, ⟨⟨trivial, ⟨trivial, ⟨rfl, trivial⟩⟩⟩, trivial⟩⟩) (pt_notD (pt_valD (pe_callD (ih 31 _ _ F31) (by exact hr3) (by rfl) (by exact c.gl 31 (by decide)) (by exact F31.kp) (by exact bd_31 F31) (by exact takesD) (by exact (fun _ => rfl)) (by exact (.inl rfl)) (lenN (lenN len0)) (pa_consD (fun _ => by decide) (pe_toldD (told_ok c g.L) (by rfl) (by rfl) (by exact c.gl 47 (by decide)) F47 (bd_47 F47) sc_47 rfl (vis_of rfl) (fun cdv => toldG c.cg rfl rfl) tb rfl (by exact hmT) (by exact hu) (by exact hr) (lamS_by (by rfl)) (by rfl) (fun _ _ _ _ _ => by rfl) (fun _ _ _ _ _ _ _ hr2 => (pe_callD (ih 26 _ _ F26) (by exact hr2) (by rfl) (by exact c.gl 26 (by decide)) (by exact F26.kp) (by exact bd_26 F26) (by exact takesL) (by exact (fun _ => rfl)) (by exact (.inl rfl)) (lenN (lenN (lenN len0))) (pa_consD (fun _ => by decide) (pe_varD (by rfl) (vis_of (by rfl)) (by rfl) (by rfl)) (pa_consD (fun _ => by decide) (pe_varD (by rfl) (vis_of (by rfl)) (by rfl) (by rfl)) (pa_consD (fun _ => by decide) (pe_varD (by rfl) (vis_of (by rfl)) (by rfl) (by rfl)) pa_nilD rfl) rfl) rfl) (by rfl) (by rfl) (by rfl))) (by rfl) (by rfl) (by rfl)) (pa_consD (fun _ => by decide) (pe_tupD (pa_consD (fun _ => by decide) pe_strD (pa_consD (fun _ => by decide) pe_strD (pa_consD (fun _ => by decide) (pe_varD (by rfl) (vis_of (by rfl)) (by rfl) (by rfl)) pa_nilD rfl) rfl) rfl)) pa_nilD rfl) rfl) (by rfl) (by rfl) (by rfl)) (fun _ => rfl))) (pss_consD (ps_retD (by decide) (.inl rfl) (by exact trivial) pe_boolD) pss_nilD) pss_nilD) pss_nilD) (fun _ => rfl)) pss_nilD))))))) (fun _ => rfl))
  · exact (ps_retD (by decide) (.inl rfl) (by exact trivial) pe_boolD)
theorem w_51 (c : CS K mg) (g : Gx C nc K G.gv) (ih : Good T P w K mg base G (k + 3) rn) (kc : Con K w mg) (gf : ∀ j, j < nd → G.gv.f j = some (V.ref (He.ga K (T.nm j)))) (lk : Addr → Prop) (cdv : Value) (A : Around) (outer : List Env) (s : Shared) (H : Hp) (E : XK) {f : Addr} (hlk0 : T.pu 51 = true ∨ ∀ a, ¬ lk a) {cA PA : Addr} (hcd : cdv = .ref cA) (tb : LamX.TabB base mg cA PA) (hmT : (PA, qlam 51) ∈ G.gv.T) (hu : ∀ p ∈ G.gv.T, p.1 = PA → p.2 = qlam 51) (hr : Room (k + 5) (A.deeper (envOfC (T.nm 51) (defScope (T.st 51)) s.heap.objs.size f cdv))) :
    PSs (cxOf (L2.CX P w) P w K mg base (T.N 51) (T.nm 51) (defScope (T.st 51)) f cdv A outer s H E) (defBody (T.st 51)) (tS (G.L lk) (fun cls d _ H' => E cls d H') (T.pu 51) .z (b_51 rn) (md0 (T.N 51).length (T.ps 51).length) [.z, .z, .x, .x, .x, .x, .x, .x, .x, .x, .x, .x, .x, .x, .x, .x]) := by
  obtain ⟨fd8, F8⟩ := c.df 8 (by decide)
  obtain ⟨fd12, F12⟩ := c.df 12 (by decide)
  obtain ⟨fd14, F14⟩ := c.df 14 (by decide)
  obtain ⟨fd15, F15⟩ := c.df 15 (by decide)
  obtain ⟨fd17, F17⟩ := c.df 17 (by decide)
  obtain ⟨fd18, F18⟩ := c.df 18 (by decide)
  obtain ⟨fd20, F20⟩ := c.df 20 (by decide)
  obtain ⟨fd24, F24⟩ := c.df 24 (by decide)
  obtain ⟨fd26, F26⟩ := c.df 26 (by decide)
  obtain ⟨fd27, F27⟩ := c.df 27 (by decide)
  obtain ⟨fd28, F28⟩ := c.df 28 (by decide)
  obtain ⟨fd31, F31⟩ := c.df 31 (by decide)
  obtain ⟨fd32, F32⟩ := c.df 32 (by decide)
  obtain ⟨fd33, F33⟩ := c.df 33 (by decide)
  obtain ⟨fd34, F34⟩ := c.df 34 (by decide)
  obtain ⟨fd37, F37⟩ := c.df 37 (by decide)
  obtain ⟨fd38, F38⟩ := c.df 38 (by decide)
  obtain ⟨fd40, F40⟩ := c.df 40 (by decide)
  obtain ⟨fd41, F41⟩ := c.df 41 (by decide)
  obtain ⟨fd43, F43⟩ := c.df 43 (by decide)
  obtain ⟨fd44, F44⟩ := c.df 44 (by decide)
  obtain ⟨fd47, F47⟩ := c.df 47 (by decide)
  obtain ⟨fd48, F48⟩ := c.df 48 (by decide)
  obtain ⟨fd49, F49⟩ := c.df 49 (by decide)
  obtain ⟨fd50, F50⟩ := c.df 50 (by decide)
  have hN := nd_51
  subst hcd
  have hr3 := hr.mono (j := k + 3) (by omega)
  have hu65 := hr3.units65
  have hlk : ∀ a, ¬ lk a := hlk0.resolve_left (by decide)
  have hq := g.hq
  refine pss_consD (m' := [.z, .z, .x, .x, .x, .x, .x, .x, .x, .x, .x, .x, .x, .x, .x, .x]) ?_ (pss_consD (m' := [.z, .z, .x, .x, .x, .x, .x, .x, .x, .x, .x, .x, .x, .x, .x, .x]) ?_ (pss_consD (m' := [.z, .z, .x, .x, .x, .x, .x, .x, .x, .x, .x, .x, .x, .x, .x, .x]) ?_ (pss_nilD)))
  · exact (ps_setD (k := .z) hN (nameOk_of rfl rfl) (by decide) (by exact ⟨rfl, trivial⟩) (by decide) (pe_callD (ih 27 _ _ F27) (by exact hr3) (by rfl) (by exact c.gl 27 (by decide)) (by exact F27.kp) (by exact bd_27 F27) (by exact takesD) (by exact (fun _ => rfl)) (by exact (.inl rfl)) (lenN len0) (pa_consD (fun _ => by decide) (pe_varD (by rfl) (vis_of (by rfl)) (by rfl) (by rfl)) pa_nilD rfl) (by rfl) (by rfl) (by rfl)) rfl)
  · exact (ps_forD (t := (.one 2)) ownD rfl hN (.one (nameOk_of rfl rfl)) (by exact ⟨trivial, trivial⟩) (by rfl) (pi_rng1D (by rfl) (by exact c.fr _ m_range) (pa_consD (st := false) (fun h => by cases h) pe_intD (pa_nilD (st := false)) rfl) (lenN len0) rfl) (pss_consD (ps_setD (k := .z) hN (nameOk_of rfl rfl) (by decide) (by exact ⟨rfl, ⟨trivial, trivial⟩⟩) (by decide) (pe_callD (ih 37 _ _ F37) (by exact hr3) (by rfl) (by exact c.gl 37 (by decide)) (by exact F37.kp) (by exact bd_37 F37) (by exact takesD) (by exact (fun h => by cases h)) (by exact (.inr hlk)) (lenN (lenN len0)) (pa_consD (fun _ => by decide) (pe_varD (by rfl) (vis_of (by rfl)) (by rfl) (by rfl)) (pa_consD (fun _ => by decide) pe_intD pa_nilD rfl) rfl) (by rfl) (by rfl) (by rfl)) rfl) (pss_consD (ps_setD (k := .z) hN (nameOk_of rfl rfl) (by decide) (by exact ⟨rfl, ⟨rfl, ⟨⟨trivial, ⟨rfl, ⟨trivial, trivial⟩⟩⟩, trivial⟩⟩⟩) (by decide) (pe_callD (ih 38 _ _ F38) (by exact hr3) (by rfl) (by exact c.gl 38 (by decide)) (by exact F38.kp) (by exact bd_38 F38) (by exact takesD) (by exact (fun h => by cases h)) (by exact (.inr hlk)) (lenN (lenN (lenN len0))) (pa_consD (fun _ => by decide) (pe_varD (by rfl) (vis_of (by rfl)) (by rfl) (by rfl)) (pa_consD (fun _ => by decide) (pe_varD (by rfl) (vis_of (by rfl)) (by rfl) (by rfl)) (pa_consD (fun _ => by decide) (pe_addD pe_intD (pe_callD (ih 28 _ _ F28) (by exact hr3) (by rfl) (by exact c.gl 28 (by decide)) (by exact F28.kp) (by exact bd_28 F28) (by exact takesD) (by exact (fun h => by cases h)) (by exact (.inr hlk)) (lenN (lenN len0)) (pa_consD (fun _ => by decide) (pe_varD (by rfl) (vis_of (by rfl)) (by rfl) (by rfl)) (pa_consD (fun _ => by decide) pe_intD pa_nilD rfl) rfl) (by rfl) (by rfl) (by rfl))) pa_nilD rfl) rfl) rfl) (by rfl) (by rfl) (by rfl)) rfl) (pss_consD (ps_tgtD (t := .tup [5, 6]) rfl hN (.tup (.cons ⟨_, _, rfl, nameOk_of rfl rfl⟩ (.cons ⟨_, _, rfl, nameOk_of rfl rfl⟩ .nil))) (by exact ⟨⟨rfl, ⟨rfl, trivial⟩⟩, ⟨⟨rfl, trivial⟩, trivial⟩⟩) (pe_tupD (pa_consD (fun _ => by decide) (pe_callD (ih 33 _ _ F33) (by exact hr3) (by rfl) (by exact c.gl 33 (by decide)) (by exact F33.kp) (by exact bd_33 F33) (by exact takesD) (by exact (fun h => by cases h)) (by exact (.inr hlk)) (lenN (lenN len0)) (pa_consD (fun _ => by decide) (pe_varD (by rfl) (vis_of (by rfl)) (by rfl) (by rfl)) (pa_consD (fun _ => by decide) (pe_varD (by rfl) (vis_of (by rfl)) (by rfl) (by rfl)) pa_nilD rfl) rfl) (by rfl) (by rfl) (by rfl)) (pa_consD (fun _ => by decide) (pe_callD (ih 43 _ _ F43) (by exact hr3) (by rfl) (by exact c.gl 43 (by decide)) (by exact F43.kp) (by exact bd_43 F43) (by exact takesD) (by exact (fun _ => rfl)) (by exact (.inl rfl)) (lenN len0) (pa_consD (fun _ => by decide) (pe_varD (by rfl) (vis_of (by rfl)) (by rfl) (by rfl)) pa_nilD rfl) (by rfl) (by rfl) (by rfl)) pa_nilD rfl) rfl)) rfl rfl) (pss_consD (ps_setD (k := .z) hN (nameOk_of rfl rfl) (by decide) (by exact ⟨rfl, trivial⟩) (by decide) (pe_callD (ih 32 _ _ F32) (by exact hr3) (by rfl) (by exact c.gl 32 (by decide)) (by exact F32.kp) (by exact bd_32 F32) (by exact takesD) (by exact (fun _ => rfl)) (by exact (.inl rfl)) (lenN len0) (pa_consD (fun _ => by decide) (pe_varD (by rfl) (vis_of (by rfl)) (by rfl) (by rfl)) pa_nilD rfl) (by rfl) (by rfl) (by rfl)) rfl) (pss_consD (ps_setD (k := .z) hN (nameOk_of rfl rfl) (by decide) (by exact ⟨⟨rfl, trivial⟩, ⟨⟨rfl, trivial⟩, ⟨⟨rfl, trivial⟩, ⟨⟨rfl, trivial⟩, ⟨⟨rfl, trivial⟩, ⟨⟨rfl, trivial⟩, ⟨⟨rfl, trivial⟩, trivial⟩⟩⟩⟩⟩⟩⟩) (by decide) (toZ (by decide) (pe_lstD (pa_consD (fun _ => by decide) (pe_callD (ih 8 _ _ F8) (by exact hr3) (by rfl) (by exact c.gl 8 (by decide)) (by exact F8.kp) (by exact bd_8 F8) (by exact takesD) (by exact (fun _ => rfl)) (by exact (.inl rfl)) (lenN len0) (pa_consD (fun _ => by decide) (pe_varD (by rfl) (vis_of (by rfl)) (by rfl) (by rfl)) pa_nilD rfl) (by rfl) (by rfl) (by rfl)) (pa_consD (fun _ => by decide) (pe_callD (ih 12 _ _ F12) (by exact hr3) (by rfl) (by exact c.gl 12 (by decide)) (by exact F12.kp) (by exact bd_12 F12) (by exact takesD) (by exact (fun _ => rfl)) (by exact (.inl rfl)) (lenN len0) (pa_consD (fun _ => by decide) (pe_varD (by rfl) (vis_of (by rfl)) (by rfl) (by rfl)) pa_nilD rfl) (by rfl) (by rfl) (by rfl)) (pa_consD (fun _ => by decide) (pe_callD (ih 15 _ _ F15) (by exact hr3) (by rfl) (by exact c.gl 15 (by decide)) (by exact F15.kp) (by exact bd_15 F15) (by exact takesD) (by exact (fun _ => rfl)) (by exact (.inl rfl)) (lenN len0) (pa_consD (fun _ => by decide) (pe_varD (by rfl) (vis_of (by rfl)) (by rfl) (by rfl)) pa_nilD rfl) (by rfl) (by rfl) (by rfl)) (pa_consD (fun _ => by decide) (pe_callD (ih 17 _ _ F17) (by exact hr3) (by rfl) (by exact c.gl 17 (by decide)) (by exact F17.kp) (by exact bd_17 F17) (by exact takesD) (by exact (fun _ => rfl)) (by exact (.inl rfl)) (lenN len0) (pa_consD (fun _ => by decide) (pe_varD (by rfl) (vis_of (by rfl)) (by rfl) (by rfl)) pa_nilD rfl) (by rfl) (by rfl) (by rfl)) (pa_consD (fun _ => by decide) (pe_callD (ih 18 _ _ F18) (by exact hr3) (by rfl) (by exact c.gl 18 (by decide)) (by exact F18.kp) (by exact bd_18 F18) (by exact takesD) (by exact (fun _ => rfl)) (by exact (.inl rfl)) (lenN len0) (pa_consD (fun _ => by decide) (pe_varD (by rfl) (vis_of (by rfl)) (by rfl) (by rfl)) pa_nilD rfl) (by rfl) (by rfl) (by rfl)) (pa_consD (fun _ => by decide) (pe_callD (ih 14 _ _ F14) (by exact hr3) (by rfl) (by exact c.gl 14 (by decide)) (by exact F14.kp) (by exact bd_14 F14) (by exact takesD) (by exact (fun _ => rfl)) (by exact (.inl rfl)) (lenN len0) (pa_consD (fun _ => by decide) (pe_varD (by rfl) (vis_of (by rfl)) (by rfl) (by rfl)) pa_nilD rfl) (by rfl) (by rfl) (by rfl)) (pa_consD (fun _ => by decide) (pe_callD (ih 20 _ _ F20) (by exact hr3) (by rfl) (by exact c.gl 20 (by decide)) (by exact F20.kp) (by exact bd_20 F20) (by exact takesD) (by exact (fun _ => rfl)) (by exact (.inl rfl)) (lenN len0) (pa_consD (fun _ => by decide) (pe_varD (by rfl) (vis_of (by rfl)) (by rfl) (by rfl)) pa_nilD rfl) (by rfl) (by rfl) (by rfl)) pa_nilD rfl) rfl) rfl) rfl) rfl) rfl) rfl))) rfl) (pss_consD (ps_setLcD (own := [("k", 11)]) (t := (.one 11)) rfl hN rfl rfl (by decide) rfl (blkOk_by rfl) (by decide) (by decide) (pi_rng1D (by rfl) (by exact c.fr _ m_range) (pa_consD (st := false) (fun h => by cases h) (pe_lenD (by rfl) (by exact c.fr _ m_len) (pa_consD (st := false) (fun h => by cases h) (pe_varD (by rfl) (vis_of (by rfl)) (by rfl) (by rfl)) (pa_nilD (st := false)) rfl) rfl rfl) (pa_nilD (st := false)) rfl) (lenN len0) rfl) (fun _ _ _ _ _ => (.one (nameOk_of rfl rfl))) (fun _ _ _ _ _ => (pts_one (pt_notInD rfl hr3.units65 (pe_ixAD hr3.units (fun _ _ => rfl) (pe_ixAD hr3.units (fun _ _ => rfl) (pe_varD (by rfl) (vis_of (by rfl)) (by rfl) (by rfl)) (pe_varD (by rfl) (vis_of (by rfl)) (by rfl) (by rfl))) pe_intD) (pe_lcD (own := [("atom", 15)]) (t := (.one 15)) rfl hN (blkOk_by rfl) (by decide) (by decide) (pi_seqP (toZ (by decide) (pe_slLD (pe_varD (by rfl) (vis_of (by rfl)) (by rfl) (by rfl)) po_noneD (po_someD (pe_varD (by rfl) (vis_of (by rfl)) (by rfl) (by rfl)))))) (fun _ _ _ _ _ => (.one (nameOk_of rfl rfl))) (fun _ _ _ _ _ => pts_nilD) (fun _ _ _ _ _ => (pe_ixAD hr3.units (fun _ _ => rfl) (pe_varD (by rfl) (vis_of (by rfl)) (by rfl) (by rfl)) pe_intD)) (fun _ => rfl))))) (fun _ _ _ _ _ => (pe_ixAD hr3.units (fun _ _ => rfl) (pe_ixAD hr3.units (fun _ _ => rfl) (pe_varD (by rfl) (vis_of (by rfl)) (by rfl) (by rfl)) (pe_varD (by rfl) (vis_of (by rfl)) (by rfl) (by rfl))) pe_intD)) (fun _ => rfl) ⟨⟨⟨rfl, trivial⟩, trivial⟩, ⟨⟨⟨rfl, rfl⟩, trivial⟩, ⟨⟨rfl, trivial, rfl⟩, trivial, ⟨rfl, trivial⟩⟩⟩, ⟨⟨rfl, rfl⟩, trivial⟩⟩) (pss_consD (ts_frz [9] (ps_setD (k := .z) hN (nameOk_of rfl rfl) (by decide) (by exact ⟨trivial, ⟨⟨rfl, trivial⟩, ⟨⟨rfl, trivial⟩, ⟨⟨rfl, trivial⟩, ⟨rfl, ⟨rfl, ⟨⟨rfl, trivial⟩, trivial⟩⟩⟩⟩⟩⟩⟩) (by decide) (toZ (by decide) (pe_lstD (pa_consD (fun _ => by decide) pe_boolD (pa_consD (fun _ => by decide) (pe_callD (ih 40 _ _ F40) (by exact hr3) (by rfl) (by exact c.gl 40 (by decide)) (by exact F40.kp) (by exact bd_40 F40) (by exact takesD) (by exact (fun _ => rfl)) (by exact (.inl rfl)) (lenN len0) (pa_consD (fun _ => by decide) (pe_varD (by rfl) (vis_of (by rfl)) (by rfl) (by rfl)) pa_nilD rfl) (by rfl) (by rfl) (by rfl)) (pa_consD (fun _ => by decide) (pe_lenD (by rfl) (by exact c.fr _ m_len) (pa_consD (st := false) (fun h => by cases h) (pe_varD (by rfl) (vis_of (by rfl)) (by rfl) (by rfl)) (pa_nilD (st := false)) rfl) rfl rfl) (pa_consD (fun _ => by decide) (pe_callD (ih 48 _ _ F48) (by exact hr3) (by rfl) (by exact c.gl 48 (by decide)) (by exact F48.kp) (by exact bd_48 F48) (by exact takesD) (by exact (fun _ => rfl)) (by exact (.inl rfl)) (lenN len0) (pa_consD (fun _ => by decide) (pe_varD (by rfl) (vis_of (by rfl)) (by rfl) (by rfl)) pa_nilD rfl) (by rfl) (by rfl) (by rfl)) (pa_consD (fun _ => by decide) (pe_varD (by rfl) (vis_of (by rfl)) (by rfl) (by rfl)) (pa_consD (fun _ => by decide) (pe_varD (by rfl) (vis_of (by rfl)) (by rfl) (by rfl)) (pa_consD (fun _ => by decide) (pe_callD (ih 44 _ _ F44) (by exact hr3) (by rfl) (by exact c.gl 44 (by decide)) (by exact F44.kp) (by exact bd_44 F44) (by exact takesD) (by exact (fun _ => rfl)) (by exact (.inl rfl)) (lenN len0) (pa_consD (fun _ => by decide) (pe_varD (by rfl) (vis_of (by rfl)) (by rfl) (by rfl)) pa_nilD rfl) (by rfl) (by rfl) (by rfl)) pa_nilD rfl) rfl) rfl) rfl) rfl) rfl) rfl))) rfl)) (pss_consD (ps_ifD (by exact ⟨⟨rfl, ⟨rfl, trivial⟩⟩, ⟨⟨rfl, ⟨rfl, trivial⟩⟩, ⟨⟨⟨rfl, trivial⟩, trivial⟩, ⟨rfl, trivial⟩⟩⟩⟩) (PW.pt (pw_orD (pt_notD (pt_valD (pe_callD (ih 31 _ _ F31) (by exact hr3) (by rfl) (by exact c.gl 31 (by decide)) (by exact F31.kp) (by exact bd_31 F31) (by exact takesD) (by exact (fun _ => rfl)) (by exact (.inl rfl)) (lenN (lenN len0)) (pa_consD (fun _ => by decide) (pe_varD (by rfl) (vis_of (by rfl)) (by rfl) (by rfl)) (pa_consD (fun _ => by decide) (pe_varD (by rfl) (vis_of (by rfl)) (by rfl) (by rfl)) pa_nilD rfl) rfl) (by rfl) (by rfl) (by rfl)) (fun _ => rfl))) (pw_orD (pt_notD (pt_valD (pe_callD (ih 31 _ _ F31) (by exact hr3) (by rfl) (by exact c.gl 31 (by decide)) (by exact F31.kp) (by exact bd_31 F31) (by exact takesD) (by exact (fun _ => rfl)) (by exact (.inl rfl)) (lenN (lenN len0)) (pa_consD (fun _ => by decide) (pe_varD (by rfl) (vis_of (by rfl)) (by rfl) (by rfl)) (pa_consD (fun _ => by decide) (pe_varD (by rfl) (vis_of (by rfl)) (by rfl) (by rfl)) pa_nilD rfl) rfl) (by rfl) (by rfl) (by rfl)) (fun _ => rfl))) (pw_or1D (pt_notD (pt_valD (pe_callD (ih 31 _ _ F31) (by exact hr3) (by rfl) (by exact c.gl 31 (by decide)) (by exact F31.kp) (by exact bd_31 F31) (by exact takesD) (by exact (fun _ => rfl)) (by exact (.inl rfl)) (lenN (lenN len0)) (pa_consD (fun _ => by decide) (pe_callD (ih 12 _ _ F12) (by exact hr3) (by rfl) (by exact c.gl 12 (by decide)) (by exact F12.kp) (by exact bd_12 F12) (by exact takesD) (by exact (fun _ => rfl)) (by exact (.inl rfl)) (lenN len0) (pa_consD (fun _ => by decide) (pe_callD (ih 12 _ _ F12) (by exact hr3) (by rfl) (by exact c.gl 12 (by decide)) (by exact F12.kp) (by exact bd_12 F12) (by exact takesD) (by exact (fun _ => rfl)) (by exact (.inl rfl)) (lenN len0) (pa_consD (fun _ => by decide) (pe_varD (by rfl) (vis_of (by rfl)) (by rfl) (by rfl)) pa_nilD rfl) (by rfl) (by rfl) (by rfl)) pa_nilD rfl) (by rfl) (by rfl) (by rfl)) (pa_consD (fun _ => by decide) (pe_varD (by rfl) (vis_of (by rfl)) (by rfl) (by rfl)) pa_nilD rfl) rfl) (by rfl) (by rfl) (by rfl)) (fun _ => rfl))))))) (pss_consD (ps_retD (by decide) (.inl rfl) (by exact trivial) pe_boolD) pss_nilD) pss_nilD) (pss_consD (ps_exprD (by exact ⟨⟨rfl, trivial, trivial⟩, trivial⟩) (pe_callD (ih 34 _ _ F34) (by exact hr3) (by rfl) (by exact c.gl 34 (by decide)) (by exact F34.kp) (by exact bd_34 F34) (by exact takesD) (by exact (fun h => by cases h)) (by exact (.inr hlk)) (lenN len0) (pa_consD (fun _ => by decide) (pe_cellD (pe_slLD (pe_varD (by rfl) (vis_of (by rfl)) (by rfl) (by rfl)) (po_someD pe_intD) po_noneD)) pa_nilD rfl) (by rfl) (by rfl) (by rfl)) rfl) (pss_consD (ps_setD (k := .z) hN (nameOk_of rfl rfl) (by decide) (by exact ⟨⟨rfl, trivial⟩, ⟨⟨rfl, trivial⟩, ⟨⟨rfl, trivial⟩, ⟨⟨rfl, trivial⟩, ⟨⟨rfl, trivial⟩, ⟨⟨rfl, trivial⟩, trivial⟩⟩⟩⟩⟩⟩) (by decide) (toZ (by decide) (pe_lstD (pa_consD (fun _ => by decide) (pe_callKR (ih 8 _ _ F8) (by exact hr3) (by rfl) (by exact c.gl 8 (by decide)) (by exact F8.kp) (by exact kr_8 F8) (by exact takesD) (by exact (fun _ => rfl)) (by exact (.inl rfl)) (lenN len0) (pk_consD (by decide) (pe_varD (by rfl) (vis_of (by rfl)) (by rfl) (by rfl)) pk_nilD) (by rfl) (by rfl) (by rfl) (by rfl)) (pa_consD (fun _ => by decide) (pe_callKR (ih 12 _ _ F12) (by exact hr3) (by rfl) (by exact c.gl 12 (by decide)) (by exact F12.kp) (by exact kr_12 F12) (by exact takesD) (by exact (fun _ => rfl)) (by exact (.inl rfl)) (lenN len0) (pk_consD (by decide) (pe_varD (by rfl) (vis_of (by rfl)) (by rfl) (by rfl)) pk_nilD) (by rfl) (by rfl) (by rfl) (by rfl)) (pa_consD (fun _ => by decide) (pe_callKR (ih 15 _ _ F15) (by exact hr3) (by rfl) (by exact c.gl 15 (by decide)) (by exact F15.kp) (by exact kr_15 F15) (by exact takesD) (by exact (fun _ => rfl)) (by exact (.inl rfl)) (lenN len0) (pk_consD (by decide) (pe_varD (by rfl) (vis_of (by rfl)) (by rfl) (by rfl)) pk_nilD) (by rfl) (by rfl) (by rfl) (by rfl)) (pa_consD (fun _ => by decide) (pe_callKR (ih 17 _ _ F17) (by exact hr3) (by rfl) (by exact c.gl 17 (by decide)) (by exact F17.kp) (by exact kr_17 F17) (by exact takesD) (by exact (fun _ => rfl)) (by exact (.inl rfl)) (lenN len0) (pk_consD (by decide) (pe_varD (by rfl) (vis_of (by rfl)) (by rfl) (by rfl)) pk_nilD) (by rfl) (by rfl) (by rfl) (by rfl)) (pa_consD (fun _ => by decide) (pe_callKR (ih 18 _ _ F18) (by exact hr3) (by rfl) (by exact c.gl 18 (by decide)) (by exact F18.kp) (by exact kr_18 F18) (by exact takesD) (by exact (fun _ => rfl)) (by exact (.inl rfl)) (lenN len0) (pk_consD (by decide) (pe_varD (by rfl) (vis_of (by rfl)) (by rfl) (by rfl)) pk_nilD) (by rfl) (by rfl) (by rfl) (by rfl)) (pa_consD (fun _ => by decide) (pe_callKR (ih 14 _ _ F14) (by exact hr3) (by rfl) (by exact c.gl 14 (by decide)) (by exact F14.kp) (by exact kr_14 F14) (by exact takesD) (by exact (fun _ => rfl)) (by exact (.inl rfl)) (lenN len0) (pk_consD (by decide) (pe_varD (by rfl) (vis_of (by rfl)) (by rfl) (by rfl)) pk_nilD) (by rfl) (by rfl) (by rfl) (by rfl)) pa_nilD rfl) rfl) rfl) rfl) rfl) rfl))) rfl) (pss_consD (ps_ifD (by exact ⟨⟨⟨rfl, ⟨⟨rfl, trivial⟩, trivial⟩⟩, ⟨rfl, trivial⟩⟩, ⟨rfl, ⟨rfl, trivial⟩⟩⟩) (PW.pt (pw_orD (pt_notD (pt_valD (pe_callD (ih 31 _ _ F31) (by exact hr3) (by rfl) (by exact c.gl 31 (by decide)) (by exact F31.kp) (by exact bd_31 F31) (by exact takesD) (by exact (fun _ => rfl)) (by exact (.inl rfl)) (lenN (lenN len0)) (pa_consD (fun _ => by decide) (pe_catD (pe_varD (by rfl) (vis_of (by rfl)) (by rfl) (by rfl)) (pe_lstD (pa_consD (fun _ => by decide) (pe_callKR (ih 20 _ _ F20) (by exact hr3) (by rfl) (by exact c.gl 20 (by decide)) (by exact F20.kp) (by exact kr_20 F20) (by exact takesD) (by exact (fun _ => rfl)) (by exact (.inl rfl)) (lenN len0) (pk_consD (by decide) (pe_varD (by rfl) (vis_of (by rfl)) (by rfl) (by rfl)) pk_nilD) (by rfl) (by rfl) (by rfl) (by rfl)) pa_nilD rfl))) (pa_consD (fun _ => by decide) (pe_varD (by rfl) (vis_of (by rfl)) (by rfl) (by rfl)) pa_nilD rfl) rfl) (by rfl) (by rfl) (by rfl)) (fun _ => rfl))) (pw_or1D (pt_notD (pt_valD (pe_callD (ih 50 _ _ F50) (by exact hr3) (by rfl) (by exact c.gl 50 (by decide)) (by exact F50.kp) (by exact bd_50 F50) (by exact takesD) (by exact (fun h => by cases h)) (by exact (.inr hlk)) (lenN (lenN len0)) (pa_consD (fun _ => by decide) (pe_varD (by rfl) (vis_of (by rfl)) (by rfl) (by rfl)) (pa_consD (fun _ => by decide) (pe_varD (by rfl) (vis_of (by rfl)) (by rfl) (by rfl)) pa_nilD rfl) rfl) (by rfl) (by rfl) (by rfl)) (fun _ => rfl)))))) (pss_consD (ps_retD (by decide) (.inl rfl) (by exact trivial) pe_boolD) pss_nilD) pss_nilD) (pss_consD (ps_forD (t := (.one 11)) ownD rfl hN (.one (nameOk_of rfl rfl)) (by exact ⟨trivial, trivial⟩) (by rfl) (pi_rng1D (by rfl) (by exact c.fr _ m_range) (pa_consD (st := false) (fun h => by cases h) pe_intD (pa_nilD (st := false)) rfl) (lenN len0) rfl) (pss_consD (ps_setD (k := .z) hN (nameOk_of rfl rfl) (by decide) (by exact ⟨rfl, ⟨rfl, trivial⟩⟩) (by decide) (pe_callD (ih 49 _ _ F49) (by exact hr3) (by rfl) (by exact c.gl 49 (by decide)) (by exact F49.kp) (by exact bd_49 F49) (by exact takesD) (by exact (fun h => by cases h)) (by exact (.inr hlk)) (lenN (lenN len0)) (pa_consD (fun _ => by decide) (pe_varD (by rfl) (vis_of (by rfl)) (by rfl) (by rfl)) (pa_consD (fun _ => by decide) (pe_varD (by rfl) (vis_of (by rfl)) (by rfl) (by rfl)) pa_nilD rfl) rfl) (by rfl) (by rfl) (by rfl)) rfl) (pss_consD (ps_setD (k := .z) hN (nameOk_of rfl rfl) (by decide) (by exact ⟨rfl, trivial⟩) (by decide) (pe_callD (ih 41 _ _ F41) (by exact hr3) (by rfl) (by exact c.gl 41 (by decide)) (by exact F41.kp) (by exact bd_41 F41) (by exact takesD) (by exact (fun _ => rfl)) (by exact (.inl rfl)) (lenN len0) (pa_consD (fun _ => by decide) (pe_varD (by rfl) (vis_of (by rfl)) (by rfl) (by rfl)) pa_nilD rfl) (by rfl) (by rfl) (by rfl)) rfl) (pss_consD (ps_ifD (by exact ⟨⟨⟨rfl, trivial⟩, trivial⟩, ⟨rfl, trivial⟩⟩) (pt_notD (pt_valD (pe_callD (ih 31 _ _ F31) (by exact hr3) (by rfl) (by exact c.gl 31 (by decide)) (by exact F31.kp) (by exact bd_31 F31) (by exact takesD) (by exact (fun _ => rfl)) (by exact (.inl rfl)) (lenN (lenN len0)) (pa_consD (fun _ => by decide) (pe_callD (ih 8 _ _ F8) (by exact hr3) (by rfl) (by exact c.gl 8 (by decide)) (by exact F8.kp) (by exact bd_8 F8) (by exact takesD) (by exact (fun _ => rfl)) (by exact (.inl rfl)) (lenN len0) (pa_consD (fun _ => by decide) (pe_callD (ih 32 _ _ F32) (by exact hr3) (by rfl) (by exact c.gl 32 (by decide)) (by exact F32.kp) (by exact bd_32 F32) (by exact takesD) (by exact (fun _ => rfl)) (by exact (.inl rfl)) (lenN len0) (pa_consD (fun _ => by decide) (pe_varD (by rfl) (vis_of (by rfl)) (by rfl) (by rfl)) pa_nilD rfl) (by rfl) (by rfl) (by rfl)) pa_nilD rfl) (by rfl) (by rfl) (by rfl)) (pa_consD (fun _ => by decide) (pe_varD (by rfl) (vis_of (by rfl)) (by rfl) (by rfl)) pa_nilD rfl) rfl) (by rfl) (by rfl) (by rfl)) (fun _ => rfl))) (pss_consD (ps_retD (by decide) (.inl rfl) (by exact trivial) pe_boolD) pss_nilD) pss_nilD) (pss_consD (ps_forD (t := (.one 14)) ownD rfl hN (.one (nameOk_of rfl rfl)) (by exact ⟨trivial, ⟨trivial, ⟨trivial, ⟨trivial, ⟨trivial, ⟨trivial, trivial⟩⟩⟩⟩⟩⟩) (by rfl) (pi_seqP (pe_tupD (pa_consD (fun _ => by decide) (pe_globD (v := V.ref (He.ga K (T.nm 12))) (by rfl) (by exact c.gl 12 (by decide)) rfl (fun _ _ _ => .fn (by exact gf 12 (by decide))) (by rfl)) (pa_consD (fun _ => by decide) (pe_globD (v := V.ref (He.ga K (T.nm 15))) (by rfl) (by exact c.gl 15 (by decide)) rfl (fun _ _ _ => .fn (by exact gf 15 (by decide))) (by rfl)) (pa_consD (fun _ => by decide) (pe_globD (v := V.ref (He.ga K (T.nm 17))) (by rfl) (by exact c.gl 17 (by decide)) rfl (fun _ _ _ => .fn (by exact gf 17 (by decide))) (by rfl)) (pa_consD (fun _ => by decide) (pe_globD (v := V.ref (He.ga K (T.nm 18))) (by rfl) (by exact c.gl 18 (by decide)) rfl (fun _ _ _ => .fn (by exact gf 18 (by decide))) (by rfl)) (pa_consD (fun _ => by decide) (pe_globD (v := V.ref (He.ga K (T.nm 14))) (by rfl) (by exact c.gl 14 (by decide)) rfl (fun _ _ _ => .fn (by exact gf 14 (by decide))) (by rfl)) (pa_consD (fun _ => by decide) (pe_globD (v := V.ref (He.ga K (T.nm 20))) (by rfl) (by exact c.gl 20 (by decide)) rfl (fun _ _ _ => .fn (by exact gf 20 (by decide))) (by rfl)) pa_nilD rfl) rfl) rfl) rfl) rfl) rfl))) (pss_consD (ps_ifD (by exact ⟨rfl, ⟨⟨rfl, ⟨rfl, trivial⟩⟩, ⟨⟨trivial, ⟨trivial, ⟨rfl, trivial⟩⟩⟩, trivial⟩⟩⟩) (PW.pt (pw_andD (pt_notD (pt_valD (pe_varD (by rfl) (vis_of (by rfl)) (by rfl) (by rfl)) (fun _ => rfl))) (pw_and1D (pt_notD (pt_valD (pe_callD (ih 31 _ _ F31) (by exact hr3) (by rfl) (by exact c.gl 31 (by decide)) (by exact F31.kp) (by exact bd_31 F31) (by exact takesD) (by exact (fun _ => rfl)) (by exact (.inl rfl)) (lenN (lenN len0)) (pa_consD (fun _ => by decide) (pe_toldD (told_ok c g.L) (by rfl) (by rfl) (by exact c.gl 47 (by decide)) F47 (bd_47 F47) sc_47 rfl (vis_of rfl) (fun cdv => toldG c.cg rfl rfl) tb rfl (by exact hmT) (by exact hu) (by exact hr) (lamS_by (by rfl)) (by rfl) (fun _ _ _ _ _ => by rfl) (fun _ _ _ _ _ _ _ hr2 => (pe_callVD (by exact fnv_ask c gf (@ih) hlk rfl) (by exact hr2) (by exact takesL) (by rfl) (vis_of (by rfl)) (by rfl) (by rfl) (lenN len0) (pa_consD (fun _ => by decide) (pe_varD (by rfl) (vis_of (by rfl)) (by rfl) (by rfl)) pa_nilD rfl) (by rfl) (by rfl))) (by rfl) (by rfl) (by rfl)) (pa_consD (fun _ => by decide) (pe_tupD (pa_consD (fun _ => by decide) pe_strD (pa_consD (fun _ => by decide) pe_strD (pa_consD (fun _ => by decide) (pe_varD (by rfl) (vis_of (by rfl)) (by rfl) (by rfl)) pa_nilD rfl) rfl) rfl)) pa_nilD rfl) rfl) (by rfl) (by rfl) (by rfl)) (fun _ => rfl)))))) (pss_consD (ps_retD (by decide) (.inl rfl) (by exact trivial) pe_boolD) pss_nilD) pss_nilD) pss_nilD) (fun _ => rfl)) (pss_consD (ps_ifD (by exact ⟨rfl, ⟨⟨rfl, ⟨trivial, trivial⟩⟩, ⟨⟨trivial, ⟨trivial, ⟨rfl, trivial⟩⟩⟩, trivial⟩⟩⟩) (PW.pt (pw_andD (pt_notD (pt_valD (pe_varD (by rfl) (vis_of (by rfl)) (by rfl) (by rfl)) (fun _ => rfl))) (pw_and1D (pt_notD (pt_valD (pe_callD (ih 31 _ _ F31) (by exact hr3) (by rfl) (by exact c.gl 31 (by decide)) (by exact F31.kp) (by exact bd_31 F31) (by exact takesD) (by exact (fun _ => rfl)) (by exact (.inl rfl)) (lenN (lenN len0)) (pa_consD (fun _ => by decide) (pe_toldD (told_ok c g.L) (by rfl) (by rfl) (by exact c.gl 47 (by decide)) F47 (bd_47 F47) sc_47 rfl (vis_of rfl) (fun cdv => toldG c.cg rfl rfl) tb rfl (by exact hmT) (by exact hu) (by exact hr) (lamS_by (by rfl)) (by rfl) (fun _ _ _ _ _ => by rfl) (fun _ _ _ _ _ _ _ hr2 => (pe_callD (ih 24 _ _ F24) (by exact hr2) (by rfl) (by exact c.gl 24 (by decide)) (by exact F24.kp) (by exact bd_24 F24) (by exact takesL) (by exact (fun _ => rfl)) (by exact (.inl rfl)) (lenN (lenN len0)) (pa_consD (fun _ => by decide) (pe_varD (by rfl) (vis_of (by rfl)) (by rfl) (by rfl)) (pa_consD (fun _ => by decide) pe_nonD pa_nilD rfl) rfl) (by rfl) (by rfl) (by rfl))) (by rfl) (by rfl) (by rfl)) (pa_consD (fun _ => by decide) (pe_tupD (pa_consD (fun _ => by decide) pe_strD (pa_consD (fun _ => by decide) pe_strD (pa_consD (fun _ => by decide) (pe_varD (by rfl) (vis_of (by rfl)) (by rfl) (by rfl)) pa_nilD rfl) rfl) rfl)) pa_nilD rfl) rfl) (by rfl) (by rfl) (by rfl)) (fun _ => rfl)))))) (pss_consD (ps_retD (by decide) (.inl rfl) (by exact trivial) pe_boolD) pss_nilD) pss_nilD) (pss_consD (ps_ifD (by exact ⟨rfl, ⟨⟨rfl, ⟨trivial, ⟨trivial, trivial⟩⟩⟩, ⟨⟨trivial, ⟨trivial, ⟨rfl, trivial⟩⟩⟩, trivial⟩⟩⟩) (PW.pt (pw_andD (pt_notD (pt_valD (pe_varD (by rfl) (vis_of (by rfl)) (by rfl) (by rfl)) (fun _ => rfl))) (pw_and1D (pt_notD (pt_valD (pe_callD (ih 31 _ _ F31) (by exact hr3) (by rfl) (by exact c.gl 31 (by decide)) (by exact F31.kp) (by exact bd_31 F31) (by exact takesD) (by exact (fun _ => rfl)) (by exact (.inl rfl)) (lenN (lenN len0)) (pa_consD (fun _ => by decide) (pe_toldD (told_ok c g.L) (by rfl) (by rfl) (by exact c.gl 47 (by decide)) F47 (bd_47 F47) sc_47 rfl (vis_of rfl) (fun cdv => toldG c.cg rfl rfl) tb rfl (by exact hmT) (by exact hu) (by exact hr) (lamS_by (by rfl)) (by rfl) (fun _ _ _ _ _ => by rfl) (fun _ _ _ _ _ _ _ hr2 => (pe_callD (ih 26 _ _ F26) (by exact hr2) (by rfl) (by exact c.gl 26 (by decide)) (by exact F26.kp) (by exact bd_26 F26) (by exact takesL) (by exact (fun _ => rfl)) (by exact (.inl rfl)) (lenN (lenN (lenN len0))) (pa_consD (fun _ => by decide) (pe_varD (by rfl) (vis_of (by rfl)) (by rfl) (by rfl)) (pa_consD (fun _ => by decide) pe_nonD (pa_consD (fun _ => by decide) pe_nonD pa_nilD rfl) rfl) rfl) (by rfl) (by rfl) (by rfl))) (by rfl) (by rfl) (by rfl)) (pa_consD (fun _ => by decide) (pe_tupD (pa_consD (fun _ => by decide) pe_strD (pa_consD (fun _ => by decide) pe_strD (pa_consD (fun _ => by decide) (pe_varD (by rfl) (vis_of (by rfl)) (by rfl) (by rfl)) pa_nilD rfl) rfl) rfl)) pa_nilD rfl) rfl) (by rfl) (by rfl) (by rfl)) (fun _ => rfl)))))) (pss_consD (ps_retD (by decide) (.inl rfl) (by exact trivial) pe_boolD) pss_nilD) pss_nilD) pss_nilD)))))) (fun _ => rfl)) pss_nilD)))))))))))) (fun _ => rfl))
  · exact (ps_retD (by decide) (.inl rfl) (by exact trivial) pe_boolD)
end

end K01
end

section
set_option Elab.async false
set_option linter.all false
set_option autoImplicit false
set_option maxRecDepth 100000
set_option maxHeartbeats 0
namespace K01
open PySem PySem.Spec L2 VI
open PyProof.Rows (envOfC)
def lamJ : List Nat := [50, 51]
/-- the globals on data -/
def gvK (K : PySem.W.Frag) : Gv := ⟨fun j => if j < nd then some (.ref (He.ga K (T.nm j))) else none, fun j => if j < nc then some (He.ga K (C.nm j), C.fl j) else none, lamJ.map fun j => ((He.cT K (T.nm j, none)).2, qlam j), fun _ => False, fun a ns => ∀ H : Hp, SqL K H a (ns.map V.int)⟩
theorem gx (K : PySem.W.Frag) : Gx C nc K (gvK K) := ⟨fun _ => rfl, fun _ _ H h => h H⟩
theorem gfK (K : PySem.W.Frag) : ∀ j, j < nd → (gvK K).f j = some (V.ref (He.ga K (T.nm j))) := fun j h => if_pos h
/-- what is known of the defs' code objects -/
structure Lx (K : PySem.W.Frag) : Prop where
  ref : ∀ j ∈ lamJ, ∃ oc od fd osl c, K.lookup (He.ga K (T.nm j)) = some ⟨oc, od, .func fd, osl⟩ ∧ fd.code = .ref c
  nd : ((lamJ.map fun j => (He.cT K (T.nm j, none)).2)).Nodup
section
variable {P : Program} {w : World} {K : PySem.W.Frag} {mg : Str → Option Value} {base : Heap}
theorem fn_st {G : Gc} {k j n : Nat} {f : Addr} {fd : FuncData} (h : ∀ ds S, run n j ds S = .st) : FnOk P w K mg base (L2.CX P w) k f fd (T.ps j) (spD G (T.ps j).length (T.rk j) (T.pu j) (run n j)) :=
  ⟨fun vs H Q E h => h.1, fun A outer s H args us vs Q E _ _ _ _ h2 => by
    obtain ⟨_, _, _, _, S, ds, _, _, _, q⟩ := h2
    rw [h ds S] at q
    exact q.elim⟩
theorem code_of {j : Nat} {cdv : Value} (hx : Lx K) (hj : j ∈ lamJ) {fx : Addr} (hcd : ∃ oc od osl fd', K.lookup fx = some ⟨oc, od, .func fd', osl⟩ ∧ fd'.code = cdv) (tb : ∀ j ∈ lamJ, LamX.TabB base mg (He.cT K (T.nm j, none)).1 (He.cT K (T.nm j, none)).2) (hfx : fx = He.ga K (T.nm j)) :
    ∃ cA, cdv = .ref cA ∧ LamX.TabB base mg cA (He.cT K (T.nm j, none)).2 ∧ ((He.cT K (T.nm j, none)).2, qlam j) ∈ (gvK K).T ∧ ∀ p ∈ (gvK K).T, p.1 = (He.cT K (T.nm j, none)).2 → p.2 = qlam j := by
  obtain ⟨oc, od, fd, osl, c, lk, e⟩ := hx.ref j hj
  obtain ⟨oc', od', osl', fd', lk', e'⟩ := hcd
  subst hfx
  rw [lk] at lk'
  cases lk'
  refine ⟨c, by rw [← e', e], ?_, List.mem_map.mpr ⟨j, hj, rfl⟩, fun p hp ep => ?_⟩
  · have h1 := tb j hj
    have h2 : (He.cT K (T.nm j, none)).1 = c := He.codeOf_eq (p := (T.nm j, none)) lk e
    rw [h2] at h1
    exact h1
  · obtain ⟨i, hi, rfl⟩ := List.mem_map.mp hp
    obtain ⟨a, ha, ea⟩ := List.getElem_of_mem hi
    obtain ⟨b, hb, eb⟩ := List.getElem_of_mem hj
    have hnd := hx.nd
    have ab : a = b := (List.getElem_inj (h₀ := by simpa using ha) (h₁ := by simpa using hb) hnd).mp (by
      rw [List.getElem_map, List.getElem_map, ea, eb]
      exact ep)
    subst ab
    show qlam i = qlam j
    rw [← ea, ← eb]
theorem good (c : CS K mg) (kc : Con K w mg) (hx : Lx K) (tb : ∀ j ∈ lamJ, LamX.TabB base mg (He.cT K (T.nm j, none)).1 (He.cT K (T.nm j, none)).2) : ∀ n, Good T P w K mg base ⟨gvK K⟩ (3 * n + 3) (run n)
  | 0 => @good0 _ _ _ _ _ _ _ _
  | n + 1 => fun j f fd F ef => by
    have ih : Good T P w K mg base ⟨gvK K⟩ (3 * n + 3) (run n) := fun j f fd F e => good c kc hx tb n j f fd F e
    have g : Gx C nc K (gvK K) := gx K
    have gf := gfK K
    match j, F, ef with
    | 0, F, _ => exact okD F sc_0 fun lk cdv A outer s H E hk hr => w_0 (G := ⟨gvK K⟩) c g (@ih) kc gf lk cdv A outer s H E hk hr
    | 1, F, _ => exact okD F sc_1 fun lk cdv A outer s H E hk hr => w_1 (G := ⟨gvK K⟩) c g (@ih) kc gf lk cdv A outer s H E hk hr
    | 2, F, _ => exact okD F sc_2 fun lk cdv A outer s H E hk hr => w_2 (G := ⟨gvK K⟩) c g (@ih) kc gf lk cdv A outer s H E hk hr
    | 3, F, _ => exact okD F sc_3 fun lk cdv A outer s H E hk hr => w_3 (G := ⟨gvK K⟩) c g (@ih) kc gf lk cdv A outer s H E hk hr
    | 4, F, _ => exact okD F sc_4 fun lk cdv A outer s H E hk hr => w_4 (G := ⟨gvK K⟩) c g (@ih) kc gf lk cdv A outer s H E hk hr
    | 5, F, _ => exact okD F sc_5 fun lk cdv A outer s H E hk hr => w_5 (G := ⟨gvK K⟩) c g (@ih) kc gf lk cdv A outer s H E hk hr
    | 6, F, _ => exact okD F sc_6 fun lk cdv A outer s H E hk hr => w_6 (G := ⟨gvK K⟩) c g (@ih) kc gf lk cdv A outer s H E hk hr
    | 7, F, _ => exact okD F sc_7 fun lk cdv A outer s H E hk hr => w_7 (G := ⟨gvK K⟩) c g (@ih) kc gf lk cdv A outer s H E hk hr
    | 8, F, _ => exact okD F sc_8 fun lk cdv A outer s H E hk hr => w_8 (G := ⟨gvK K⟩) c g (@ih) kc gf lk cdv A outer s H E hk hr
    | 9, F, _ => exact okD F sc_9 fun lk cdv A outer s H E hk hr => w_9 (G := ⟨gvK K⟩) c g (@ih) kc gf lk cdv A outer s H E hk hr
    | 10, F, _ => exact okD F sc_10 fun lk cdv A outer s H E hk hr => w_10 (G := ⟨gvK K⟩) c g (@ih) kc gf lk cdv A outer s H E hk hr
    | 11, F, _ => exact okD F sc_11 fun lk cdv A outer s H E hk hr => w_11 (G := ⟨gvK K⟩) c g (@ih) kc gf lk cdv A outer s H E hk hr
    | 12, F, _ => exact okD F sc_12 fun lk cdv A outer s H E hk hr => w_12 (G := ⟨gvK K⟩) c g (@ih) kc gf lk cdv A outer s H E hk hr
    | 13, F, _ => exact okD F sc_13 fun lk cdv A outer s H E hk hr => w_13 (G := ⟨gvK K⟩) c g (@ih) kc gf lk cdv A outer s H E hk hr
    | 14, F, _ => exact okD F sc_14 fun lk cdv A outer s H E hk hr => w_14 (G := ⟨gvK K⟩) c g (@ih) kc gf lk cdv A outer s H E hk hr
    | 15, F, _ => exact okD F sc_15 fun lk cdv A outer s H E hk hr => w_15 (G := ⟨gvK K⟩) c g (@ih) kc gf lk cdv A outer s H E hk hr
    | 16, F, _ => exact okD F sc_16 fun lk cdv A outer s H E hk hr => w_16 (G := ⟨gvK K⟩) c g (@ih) kc gf lk cdv A outer s H E hk hr
    | 17, F, _ => exact okD F sc_17 fun lk cdv A outer s H E hk hr => w_17 (G := ⟨gvK K⟩) c g (@ih) kc gf lk cdv A outer s H E hk hr
    | 18, F, _ => exact okD F sc_18 fun lk cdv A outer s H E hk hr => w_18 (G := ⟨gvK K⟩) c g (@ih) kc gf lk cdv A outer s H E hk hr
    | 19, F, _ => exact okD F sc_19 fun lk cdv A outer s H E hk hr => w_19 (G := ⟨gvK K⟩) c g (@ih) kc gf lk cdv A outer s H E hk hr
    | 20, F, _ => exact okD F sc_20 fun lk cdv A outer s H E hk hr => w_20 (G := ⟨gvK K⟩) c g (@ih) kc gf lk cdv A outer s H E hk hr
    | 21, F, _ => exact okD F sc_21 fun lk cdv A outer s H E hk hr => w_21 (G := ⟨gvK K⟩) c g (@ih) kc gf lk cdv A outer s H E hk hr
    | 22, F, _ => exact okD F sc_22 fun lk cdv A outer s H E hk hr => w_22 (G := ⟨gvK K⟩) c g (@ih) kc gf lk cdv A outer s H E hk hr
    | 23, F, _ => exact okD F sc_23 fun lk cdv A outer s H E hk hr => w_23 (G := ⟨gvK K⟩) c g (@ih) kc gf lk cdv A outer s H E hk hr
    | 24, F, _ => exact okD F sc_24 fun lk cdv A outer s H E hk hr => w_24 (G := ⟨gvK K⟩) c g (@ih) kc gf lk cdv A outer s H E hk hr
    | 25, F, _ => exact okD F sc_25 fun lk cdv A outer s H E hk hr => w_25 (G := ⟨gvK K⟩) c g (@ih) kc gf lk cdv A outer s H E hk hr
    | 26, F, _ => exact okD F sc_26 fun lk cdv A outer s H E hk hr => w_26 (G := ⟨gvK K⟩) c g (@ih) kc gf lk cdv A outer s H E hk hr
    | 27, F, _ => exact okD F sc_27 fun lk cdv A outer s H E hk hr => w_27 (G := ⟨gvK K⟩) c g (@ih) kc gf lk cdv A outer s H E hk hr
    | 28, F, _ => exact okD F sc_28 fun lk cdv A outer s H E hk hr => w_28 (G := ⟨gvK K⟩) c g (@ih) kc gf lk cdv A outer s H E hk hr
    | 29, F, _ => exact okD F sc_29 fun lk cdv A outer s H E hk hr => w_29 (G := ⟨gvK K⟩) c g (@ih) kc gf lk cdv A outer s H E hk hr
    | 30, F, _ => exact okD F sc_30 fun lk cdv A outer s H E hk hr => w_30 (G := ⟨gvK K⟩) c g (@ih) kc gf lk cdv A outer s H E hk hr
    | 31, F, _ => exact okD F sc_31 fun lk cdv A outer s H E hk hr => w_31 (G := ⟨gvK K⟩) c g (@ih) kc gf lk cdv A outer s H E hk hr
    | 32, F, _ => exact okD F sc_32 fun lk cdv A outer s H E hk hr => w_32 (G := ⟨gvK K⟩) c g (@ih) kc gf lk cdv A outer s H E hk hr
    | 33, F, _ => exact okD F sc_33 fun lk cdv A outer s H E hk hr => w_33 (G := ⟨gvK K⟩) c g (@ih) kc gf lk cdv A outer s H E hk hr
    | 34, F, _ => exact okD F sc_34 fun lk cdv A outer s H E hk hr => w_34 (G := ⟨gvK K⟩) c g (@ih) kc gf lk cdv A outer s H E hk hr
    | 35, F, _ => exact okD F sc_35 fun lk cdv A outer s H E hk hr => w_35 (G := ⟨gvK K⟩) c g (@ih) kc gf lk cdv A outer s H E hk hr
    | 36, F, _ => exact okD F sc_36 fun lk cdv A outer s H E hk hr => w_36 (G := ⟨gvK K⟩) c g (@ih) kc gf lk cdv A outer s H E hk hr
    | 37, F, _ => exact okD F sc_37 fun lk cdv A outer s H E hk hr => w_37 (G := ⟨gvK K⟩) c g (@ih) kc gf lk cdv A outer s H E hk hr
    | 38, F, _ => exact okD F sc_38 fun lk cdv A outer s H E hk hr => w_38 (G := ⟨gvK K⟩) c g (@ih) kc gf lk cdv A outer s H E hk hr
    | 39, F, _ => exact okD F sc_39 fun lk cdv A outer s H E hk hr => w_39 (G := ⟨gvK K⟩) c g (@ih) kc gf lk cdv A outer s H E hk hr
    | 40, F, _ => exact okD F sc_40 fun lk cdv A outer s H E hk hr => w_40 (G := ⟨gvK K⟩) c g (@ih) kc gf lk cdv A outer s H E hk hr
    | 41, F, _ => exact okD F sc_41 fun lk cdv A outer s H E hk hr => w_41 (G := ⟨gvK K⟩) c g (@ih) kc gf lk cdv A outer s H E hk hr
    | 42, F, _ => exact okD F sc_42 fun lk cdv A outer s H E hk hr => w_42 (G := ⟨gvK K⟩) c g (@ih) kc gf lk cdv A outer s H E hk hr
    | 43, F, _ => exact okD F sc_43 fun lk cdv A outer s H E hk hr => w_43 (G := ⟨gvK K⟩) c g (@ih) kc gf lk cdv A outer s H E hk hr
    | 44, F, _ => exact okD F sc_44 fun lk cdv A outer s H E hk hr => w_44 (G := ⟨gvK K⟩) c g (@ih) kc gf lk cdv A outer s H E hk hr
    | 45, F, _ => exact okD F sc_45 fun lk cdv A outer s H E hk hr => w_45 (G := ⟨gvK K⟩) c g (@ih) kc gf lk cdv A outer s H E hk hr
    | 46, F, _ => exact okD F sc_46 fun lk cdv A outer s H E hk hr => w_46 (G := ⟨gvK K⟩) c g (@ih) kc gf lk cdv A outer s H E hk hr
    | 47, F, _ => exact okD F sc_47 fun lk cdv A outer s H E hk hr => w_47 (G := ⟨gvK K⟩) c g (@ih) kc gf lk cdv A outer s H E hk hr
    | 48, F, _ => exact okD F sc_48 fun lk cdv A outer s H E hk hr => w_48 (G := ⟨gvK K⟩) c g (@ih) kc gf lk cdv A outer s H E hk hr
    | 49, F, _ => exact okD F sc_49 fun lk cdv A outer s H E hk hr => w_49 (G := ⟨gvK K⟩) c g (@ih) kc gf lk cdv A outer s H E hk hr
    | 50, F, ef =>
      refine okDc (m1 := [.z, .z, .z, .x, .x, .x, .x, .x, .x, .x]) F sc_50 fun lk cdv A outer s H E hcd hk hr => ?_
      obtain ⟨cA, hc', e1, e2, e3⟩ := code_of (j := 50) hx (by decide) hcd tb ef
      exact w_50 (G := ⟨gvK K⟩) c g (@ih) kc gf lk cdv A outer s H E hk hc' e1 e2 e3 hr
    | 51, F, ef =>
      refine okDc (m1 := [.z, .z, .x, .x, .x, .x, .x, .x, .x, .x, .x, .x, .x, .x, .x, .x]) F sc_51 fun lk cdv A outer s H E hcd hk hr => ?_
      obtain ⟨cA, hc', e1, e2, e3⟩ := code_of (j := 51) hx (by decide) hcd tb ef
      exact w_51 (G := ⟨gvK K⟩) c g (@ih) kc gf lk cdv A outer s H E hk hc' e1 e2 e3 hr
    | j + 52, F, _ => exact fn_st fun ds S => rfl
end
end K01
end

section
set_option Elab.async false
set_option linter.all false
set_option autoImplicit false
set_option maxRecDepth 100000
set_option maxHeartbeats 0
namespace K01
open PySem PySem.Spec L2 VI
open He (ga ma)
theorem mem_of_lk {β : Type} {z : Str} {y : β} : ∀ {l : List (Str × β)}, l.lookup z = some y → (z, y) ∈ l
  | [], h => by cases h
  | (b, u) :: r, h => by
    rw [List.lookup_cons] at h
    split at h
    · rename_i q
      rw [beq_iff_eq.mp q, Option.some.inj h]
      exact List.mem_cons_self
    · exact List.mem_cons_of_mem _ (mem_of_lk h)
theorem tf_eq : tf = lamJ.map fun j => (T.nm j, none) := by decide
theorem cs_of {K : PySem.W.Frag} {w : World} {h : Heap} {mg : Str → Option Value} (X : K.In h) (G : h.Ns mainGlobals mg) (c : He.SaysX fa fn ts tf ex w h K) : CS K mg ∧ Con K w mg ∧ Lx K := by
  have c1 := c.t.d
  have c2 := c.more
  have facts : ∀ f ∈ fa, f.ok K = true := fun f hf => c1.facts hf
  have defs : ∀ d ∈ fn, ∃ fd, FunD K d.name d.qual d.params d.body d.scope (d.dvs K) (d.kws K) (He.fAd K d.at_) fd := fun d hd => c1.defs hd
  unfold ex at c2
  simp only [Bool.and_eq_true] at c2
  obtain ⟨⟨⟨⟨k1, k2⟩, k3⟩, k4⟩, k5⟩ := c2
  rw [List.all_eq_true] at k1
  rw [decide_eq_true_eq] at k2 k4
  rw [List.all_eq_true] at k3
  refine ⟨⟨fun j hj => ?_, fun j hj => ?_, fun x hx => ?_, fun j hj => ?_, fun j hj => k1 j (List.mem_range.mpr hj), fun j hj hf => ?_, k2⟩, ?_, ?_⟩
  · exact defs (dDef j) (List.mem_append_left _ (List.mem_map.mpr ⟨j, List.mem_range.mpr hj, rfl⟩))
  · exact He.glo_ok X G (facts (.glo (T.nm j)) (List.mem_append_left _ (List.mem_append_left _ (List.mem_append_left _ (List.mem_map.mpr ⟨j, List.mem_range.mpr hj, rfl⟩)))))
  · exact He.free_ok X G (facts (.free x) (List.mem_append_left _ (List.mem_append_right _ (List.mem_map.mpr ⟨x, hx, rfl⟩))))
  · exact He.glo_ok X G (facts (.glo (C.nm j)) (List.mem_append_left _ (List.mem_append_left _ (List.mem_append_right _ (List.mem_map.mpr ⟨j, List.mem_range.mpr hj, rfl⟩)))))
  · refine defs (dIni j) (List.mem_append_right _ (List.mem_map.mpr ⟨j, List.mem_filter.mpr ⟨List.mem_range.mpr hj, ?_⟩, rfl⟩))
    cases e : C.fl j with
    | nil => exact absurd e hf
    | cons _ _ => rfl
  · refine ⟨He.str_ok X G (facts (.str ("LETTERS" : Str) ("abcdefghijklmnopqrstuvwxyz" : Str)) (List.mem_append_right _ (by simp))), ?_⟩
    · refine ⟨ga K ("TURNS" : Str), He.glo_ok X G (facts (.glo ("TURNS" : Str)) (List.mem_append_right _ (by simp))), fun z y hz => ?_⟩
      obtain ⟨es, m, hk⟩ := c.t.tab 0 (by rfl)
      have hm : (z, He.Dv.str y) ∈ kv_TURNS := by
        have e : kv_TURNS = tab_TURNS.map fun p => (p.1, He.Dv.str p.2) := rfl
        rw [e]
        exact List.mem_map.mpr ⟨(z, y), mem_of_lk hz, rfl⟩
      obtain ⟨u, h1, h2⟩ := He.valsB_ok k5 hm
      exact ⟨es, m, u, hk.at_, hk.lit, h1, h2⟩
  · refine ⟨fun j hj => ?_, ?_⟩
    · have h := k3 (T.nm j, none) (by rw [tf_eq]; exact List.mem_map.mpr ⟨j, hj, rfl⟩)
      have h' : (match K.lookup (ga K (T.nm j)) with | some ⟨_, _, .func fd, _⟩ => (match fd.code with | .ref _ => true | _ => false) | _ => false) = true := h
      split at h'
      · rename_i oc od fd osl e
        split at h'
        · rename_i c0 e2
          exact ⟨oc, od, fd, osl, c0, e, e2⟩
        · cases h'
      · cases h'
    · have h := k4
      rw [tf_eq, List.map_map] at h
      exact h
theorem sp_law {n : Nat} (hT : ∀ ns : List Int, ns.length ≤ 63 → ∃ S', run n 51 [.scr ns] [] = .ok (.bl true) S') {K : PySem.W.Frag} (H : Hp) (a : Addr) (ns : List Int) (hl : ns.length ≤ 63) (hH : ∀ j ∈ lamJ, H (He.cT K (T.nm j, none)).2 = some (.tbl #[])) (hS : SqL K H a (ns.map V.int)) :
    spD ⟨gvK K⟩ 1 .z false (run n 51) [.ref a] H (fun v _ => v = .bl true) fun _ _ _ => False := by
  obtain ⟨S', e⟩ := hT ns hl
  have tb : Tabx (gvK K).T H := ⟨fun p hp => by
    obtain ⟨j, hj, rfl⟩ := List.mem_map.mp hp
    exact ⟨#[], hH j hj, trivial, fun pos cv h => by cases h⟩, trivial⟩
  have fin : ∀ (Z : Addr → Prop), (∀ x, Z x → ∃ o, H x = some o) → Rep (gvK K) H Z [] (.ref a) (.scr ns) → spD ⟨gvK K⟩ 1 .z false (run n 51) [.ref a] H (fun v _ => v = .bl true) fun _ _ _ => False := fun Z hz r => by
    refine ⟨rfl, fun _ => False, Z, [], [], [.scr ns], .inr fun _ h => h, ⟨rfl, .nil, fun n x h => by simp at h, hz, tb⟩, .cons r .nil, ?_⟩
    rw [e]
    intro v H' Z' c' _ _ r
    exact (Vr.rep r).bl
  rcases hS with (h | ⟨o, h⟩) | h
  · exact fin (fun x => x = a) (fun x (hx : x = a) => ⟨.lst (ns.map V.int), hx ▸ h⟩) (.scrZ h rfl)
  · exact fin (fun _ => False) (fun x hx => hx.elim) (.scr h)
  · exact fin (fun _ => False) (fun x hx => hx.elim) (.scrK fun H => .inr h)
end K01
open PySem PySem.W PySem.Calls PyProof.Rows
theorem K01.holds_of {n : Nat} (hn : n ≤ 66) (hT : ∀ ns : List Int, ns.length ≤ 63 → ∃ S', K01.run n 51 [.scr ns] [] = .ok (.bl true) S') : PySem.Challenge.rw_tiedproofs_k01_whole_formulas.Holds := by
  w_on; o_law
  refine HandSHeadRun.head_any (r := OpenLaw.row PySem.Challenge.rw_tiedproofs_k01_whole_formulas) (q := view (OpenLaw.row PySem.Challenge.rw_tiedproofs_k01_whole_formulas).prog [62]) (H := K01.hk) (ob := K01.ob) (M := 24000) (loose := K01.loose) (d := HandSHeadRun.topDef (OpenLaw.row PySem.Challenge.rw_tiedproofs_k01_whole_formulas).prog 62) (kwd := []) K01.ob_eq
    (by kernel_rfl) (fun s => by kernel_rfl) K01.runs (by kernel_rfl) (by kernel_rfl) (by kernel_rfl) (by rfl) (by first | assumption | decide +kernel) (by decide +kernel) ⟨rfl, rfl, rfl, rfl, rfl, by decide +kernel⟩ ?hw ?hc
  case hw => w_witness2
  case hc =>
    refine LamX.walk_ofTsE (l := PySem.Challenge.rw_tiedproofs_k01_whole_formulas) (n := 63) (k := 3 * n + 3) (x := "script") (CX := fun _ => L2.CX0) rfl (by decide) (by kernel_rfl) ⟨rfl, ?h1, ?h2⟩ ?F (fun _ _ _ _ _ z => z)
    case h1 => have : callerA.depth + 3 * 203 + 5 < recursionLimit := by decide
               omega
    case h2 => have : callerA.units + 16 * 203 + 200 < cLine := by decide
               omega
    intro w mg f h Y G hmg0
    obtain ⟨K, KX, c0⟩ := Y
    refine ⟨K, KX, ?_⟩
    have hmg : mg ("law" : PySem.Str) = some (.ref f) := by
      have e : (HandSHeadRun.topDef (OpenLaw.row PySem.Challenge.rw_tiedproofs_k01_whole_formulas).prog 62).name = ("law" : PySem.Str) := by kernel_rfl
      rw [← e]
      exact hmg0
    obtain ⟨c, kc, hx⟩ := K01.cs_of KX G c0
    have e2 : mg ("law" : PySem.Str) = some (.ref (He.ga K (K01.T.nm 51))) := c.gl 51 (by decide)
    rw [e2] at hmg
    cases hmg
    obtain ⟨fd, F⟩ := c.df 51 (by decide)
    have b := L2.FunD.bindsA (ps := ["script"]) F fun _ _ _ _ _ _ us hl => match us, hl with | [_], _ => rfl
    have mem : ∀ p ∈ K01.lamJ.map (fun j => He.cT K (K01.T.nm j, none)), ∃ q ∈ K01.tf, p = He.cT K q := fun p hp => by
      obtain ⟨j, hj, rfl⟩ := List.mem_map.mp hp
      exact ⟨_, by rw [K01.tf_eq]; exact List.mem_map.mpr ⟨j, hj, rfl⟩, rfl⟩
    refine ⟨fd, K01.lamJ.map (fun j => He.cT K (K01.T.nm j, none)), fun vs H Q _ => VI.spD ⟨K01.gvK K⟩ 1 .z false (K01.run n 51) vs H Q L2.E0, fun p hp => ?_, fun p hp => ?_, fun p hp => ?_, fun s v => b s [v] rfl, fun H a ns hl _ hH hS => K01.sp_law hT H a ns hl (fun j hj => hH _ (List.mem_map.mpr ⟨j, hj, rfl⟩)) hS, fun base _ _ hb => VI.noX (K01.good (base := base) c kc hx (fun j hj => hb _ (List.mem_map.mpr ⟨j, hj, rfl⟩)) n 51 _ fd F)⟩
    · obtain ⟨q, hq, rfl⟩ := mem p hp
      exact c0.empty q hq
    · obtain ⟨q, hq, rfl⟩ := mem p hp
      exact c0.out q hq
    · obtain ⟨q, hq, rfl⟩ := mem p hp
      exact PySem.W.codeHd_of_K KX (c0.hd q hq)
end

section
set_option Elab.async false
set_option linter.all false
set_option autoImplicit false
set_option maxRecDepth 100000
/-! VP, 0: how a text read on data is reckoned: rules for simp -/
namespace VI
open PySem PySem.Spec L2
def runF : SRes → Res
  | .nx _ S' => .ok .non S'
  | .ret d S' => .ok d S'
  | .ex j ds' S' => .ex j ds' S'
  | .st => .st
section
variable {δ : Dl} {S S1 : Store} {d d' : D} {ds xs ys : List D} {i j : Nat}
@[simp] theorem runF_nx : runF (.nx δ S) = .ok .non S := rfl
@[simp] theorem runF_ret : runF (.ret d S) = .ok d S := rfl
@[simp] theorem runF_ex : runF (.ex j ds S) = .ex j ds S := rfl
/-! expressions -/
@[simp] theorem e_var (i : Nat) : fVar i δ S = match δ[i]? with
  | some (some d) => .ok d S
  | _ => .st := rfl
@[simp] theorem e_con (d : D) : fCon d δ S = .ok d S := rfl
@[simp] theorem e_nil : fNil δ S = .ok [] S := rfl
@[simp] theorem e_opt (d : D) : opt (some d) S = .ok d S := rfl
@[simp] theorem e_bindR (g : D → Store → Res) : bindR (.ok d S) g = g d S := rfl
@[simp] theorem e_bindRx (g : D → Store → Res) : bindR (.ex j ds S) g = .ex j ds S := rfl
@[simp] theorem e_bindS (g : D → Store → SRes) : bindS (.ok d S) g = g d S := rfl
@[simp] theorem e_bindSx (g : D → Store → SRes) : bindS (.ex j ds S) g = .ex j ds S := rfl
@[simp] theorem e_cons (f : Dl → Store → Res) (g : Dl → Store → Ress) : consR f g δ S = match f δ S with
  | .ok d S1 => (match g δ S1 with
    | .ok ds S2 => .ok (d :: ds) S2
    | .ex j ds S2 => .ex j ds S2
    | .st => .st)
  | .ex j ds S1 => .ex j ds S1
  | .st => .st := rfl
@[simp] theorem e_fin1 (f : Dl → Store → Res) (g : Store → D → Option D) : fin1 f g δ S = match f δ S with
  | .ok d S1 => opt (g S1 d) S1
  | .ex j ds S1 => .ex j ds S1
  | .st => .st := by unfold fin1 bindR; cases f δ S <;> rfl
@[simp] theorem e_fin2 (f f' : Dl → Store → Res) (g : Store → D → D → Option D) : fin2 f f' g δ S = match f δ S with
  | .ok d S1 => (match f' δ S1 with
    | .ok d' S2 => opt (g S2 d d') S2
    | .ex j ds S1 => .ex j ds S1
    | .st => .st)
  | .ex j ds S1 => .ex j ds S1
  | .st => .st := by
  unfold fin2 bindR
  cases f δ S with
  | ok d S1 => first | rfl | (dsimp only; cases f' δ S1 <;> rfl)
  | _ => rfl
@[simp] theorem e_finN (f : Dl → Store → Ress) (g : Store → List D → Option D) : finN f g δ S = match f δ S with
  | .ok ds S1 => opt (g S1 ds) S1
  | .ex j ds S1 => .ex j ds S1
  | .st => .st := rfl
@[simp] theorem e_tup (f : Dl → Store → Ress) : fTup f δ S = match f δ S with
  | .ok ds S1 => if ds.length ≤ 16777216 then .ok (.tup ds) S1 else .st
  | .ex j ds S1 => .ex j ds S1
  | .st => .st := by unfold fTup; rw [sizeLine_eq] <;> rfl
@[simp] theorem e_lst (f : Dl → Store → Ress) : fLst f δ S = match f δ S with
  | .ok ds S1 => if ds.length ≤ 16777216 then .ok (.lst ds) S1 else .st
  | .ex j ds S1 => .ex j ds S1
  | .st => .st := by unfold fLst; rw [sizeLine_eq] <;> rfl
@[simp] theorem e_dnew (t : Bool) : fDnew t δ S = .ok (.dct t [] []) S := rfl
@[simp] theorem e_and (f g : Dl → Store → Res) : fAnd f g δ S = match f δ S with
  | .ok (.bl true) S1 => g δ S1
  | .ok (.bl false) S1 => .ok (.bl false) S1
  | .ok _ _ => .st
  | .ex j ds S1 => .ex j ds S1
  | .st => .st := by
  unfold fAnd bindR
  cases f δ S with
  | ok d S1 => cases d with
    | bl b => cases b <;> rfl
    | _ => rfl
  | _ => rfl
@[simp] theorem e_or (f g : Dl → Store → Res) : fOr f g δ S = match f δ S with
  | .ok (.bl true) S1 => .ok (.bl true) S1
  | .ok (.bl false) S1 => g δ S1
  | .ok _ _ => .st
  | .ex j ds S1 => .ex j ds S1
  | .st => .st := by
  unfold fOr bindR
  cases f δ S with
  | ok d S1 => cases d with
    | bl b => cases b <;> rfl
    | _ => rfl
  | _ => rfl
@[simp] theorem e_if (t f g : Dl → Store → Res) : fIf t f g δ S = match t δ S with
  | .ok (.bl true) S1 => f δ S1
  | .ok (.bl false) S1 => g δ S1
  | .ok _ _ => .st
  | .ex j ds S1 => .ex j ds S1
  | .st => .st := by
  unfold fIf bindR
  cases t δ S with
  | ok d S1 => cases d with
    | bl b => cases b <;> rfl
    | _ => rfl
  | _ => rfl
@[simp] theorem e_not (b : Bool) : gNot S (.bl b) = some (.bl (!b)) := rfl
@[simp] theorem e_call (f : Dl → Store → Ress) (g : List D → Store → Res) : fCall f g δ S = match f δ S with
  | .st => .st
  | .ex j ds S' => .ex j ds S'
  | .ok ds S1 => g ds S1 := rfl
@[simp] theorem e_cell (f : Dl → Store → Res) : fCell f δ S = match f δ S with
  | .ok d S1 => (match cellOf d with
    | some s => .ok (.cell S1.length) (S1 ++ [s])
    | none => .st)
  | .ex j ds S1 => .ex j ds S1
  | .st => .st := by unfold fCell bindR; cases f δ S <;> rfl
@[simp] theorem cellOf_lst : cellOf (.lst xs) = some (.lst xs) := rfl
@[simp] theorem cellOf_dct (t : Bool) : cellOf (.dct t xs ys) = some (.dct t xs ys) := rfl
@[simp] theorem e_itP (f : Dl → Store → Res) : fItP true f δ S = match f δ S with
  | .ok d S' => (match seqIt (der S' d) with
    | some xs => .ok xs S'
    | none => .st)
  | .ex j ds S' => .ex j ds S'
  | .st => .st := rfl
@[simp] theorem e_itF (f : Dl → Store → Res) : fItP false f δ S = match f δ S with
  | .ok d S' => (match seqIt d with
    | some xs => .ok xs S'
    | none => .st)
  | .ex j ds S' => .ex j ds S'
  | .st => .st := rfl
@[simp] theorem e_zipP (f : Dl → Store → Ress) : fZip true f δ S = match f δ S with
  | .ok [d, e] S' => (match zipD (der S' d) (der S' e) with
    | some xs => .ok xs S'
    | none => .st)
  | .ok _ _ => .st
  | .ex j ds S' => .ex j ds S'
  | .st => .st := rfl
@[simp] theorem seqIt_lst : seqIt (.lst xs) = some xs := rfl
@[simp] theorem seqIt_tup : seqIt (.tup xs) = some xs := rfl
@[simp] theorem seqIt_str (x : Str) : seqIt (.str x) = some (signs x) := rfl
@[simp] theorem e_rng (f : Dl → Store → Ress) : fRng f δ S = match f δ S with
  | .st => .st
  | .ex j ds S' => .ex j ds S'
  | .ok [.int j] S' => if -(2 ^ 62) ≤ j ∧ j < 2 ^ 62 then .ok (rngD 0 j.toNat) S' else .st
  | .ok [.int i, .int j] S' => if -(2 ^ 62) ≤ i ∧ i < 2 ^ 62 ∧ -(2 ^ 62) ≤ j ∧ j < 2 ^ 62 then .ok (rngD i (j - i).toNat) S' else .st
  | .ok _ _ => .st := rfl
@[simp] theorem e_lc (t : Tgt) (cond elt : Dl → Store → Res) (it : Dl → Store → Ress) : fLc t cond elt it δ S = match it δ S with
  | .st => .st
  | .ex j ds S' => .ex j ds S'
  | .ok items S1 => if items.length ≤ 16777216 then (match lcD t cond elt δ items S1 with
    | .ok ds S2 => .ok (.lst ds) S2
    | _ => .st) else .st := by unfold fLc; rw [sizeLine_eq] <;> rfl
@[simp] theorem e_part0 : fPart none δ S = .ok none S := rfl
@[simp] theorem e_part1 (f : Dl → Store → Res) : fPart (some f) δ S = match f δ S with
  | .ok (.int i) S' => .ok (some i) S'
  | .ok _ _ => .st
  | .ex j ds S' => .ex j ds S'
  | .st => .st := rfl
@[simp] theorem e_sl (f : Dl → Store → Res) (lo hi : Option (Dl → Store → Res)) (g : Store → D → Option Int → Option Int → Option D) : fSl f lo hi g δ S = match f δ S with
  | .ok d S1 => (match fPart lo δ S1 with
    | .st => .st
    | .ex j ds S' => .ex j ds S'
    | .ok l S2 => match fPart hi δ S2 with
      | .st => .st
      | .ex j ds S' => .ex j ds S'
      | .ok u S3 => opt (g S3 d l u) S3)
  | .ex j ds S1 => .ex j ds S1
  | .st => .st := by unfold fSl bindR; cases f δ S <;> rfl
@[simp] theorem e_told (cl : List (Nat × Str)) (f : Dl → Store → Res) : fTold cl f δ S = match f δ S with
  | .ok d S' => .ok (.tup [.str "told", d]) S'
  | .ex j [d] S' => (match cl.lookup j with
    | some key => .ok (.tup [.str "bad", .str key, d]) S'
    | none => .st)
  | _ => .st := rfl
/-! statements -/
@[simp] theorem s_nil : sNil δ S = .nx δ S := rfl
@[simp] theorem s_seq (f g : Dl → Store → SRes) : sSeq f g δ S = match f δ S with
  | .nx δ' S' => g δ' S'
  | .ret d S' => .ret d S'
  | .ex j ds S' => .ex j ds S'
  | .st => .st := by unfold sSeq; cases f δ S <;> rfl
@[simp] theorem s_asg (i : Nat) (f : Dl → Store → Res) : sAsg i f δ S = match f δ S with
  | .ok d S' => .nx (δ.set i (some d)) S'
  | .ex j ds S' => .ex j ds S'
  | .st => .st := by unfold sAsg bindS; cases f δ S <;> rfl
@[simp] theorem s_expr (f : Dl → Store → Res) : sExpr f δ S = match f δ S with
  | .ok d S' => .nx δ S'
  | .ex j ds S' => .ex j ds S'
  | .st => .st := by unfold sExpr bindS; cases f δ S <;> rfl
@[simp] theorem s_ret (f : Dl → Store → Res) : sRet f δ S = match f δ S with
  | .ok d S' => .ret d S'
  | .ex j ds S' => .ex j ds S'
  | .st => .st := by unfold sRet bindS; cases f δ S <;> rfl
@[simp] theorem s_retN : sRetN δ S = .ret .non S := rfl
@[simp] theorem s_if (t : Dl → Store → Res) (f g : Dl → Store → SRes) : sIf t f g δ S = match t δ S with
  | .ok (.bl true) S1 => f δ S1
  | .ok (.bl false) S1 => g δ S1
  | .ok _ _ => .st
  | .ex j ds S1 => .ex j ds S1
  | .st => .st := by
  unfold sIf bindS
  cases t δ S with
  | ok d S1 => cases d with
    | bl b => cases b <;> rfl
    | _ => rfl
  | _ => rfl
@[simp] theorem s_for (t : Tgt) (it : Dl → Store → Ress) (body : Dl → Store → SRes) : sFor t it body δ S = match it δ S with
  | .st => .st
  | .ex j ds S' => .ex j ds S'
  | .ok items S1 => forD t body items δ S1 := rfl
@[simp] theorem s_raise (j : Nat) (f : Dl → Store → Res) : sRaise j f δ S = match f δ S with
  | .ok d S1 => .ex j [d] S1
  | .ex j' ds S' => .ex j' ds S'
  | .st => .st := rfl
@[simp] theorem s_tgt (t : Tgt) (f : Dl → Store → Res) : sTgt t f δ S = match f δ S with
  | .ok d S' => (match bindT t d δ with
    | some δ' => .nx δ' S'
    | none => .st)
  | .ex j ds S' => .ex j ds S'
  | .st => .st := by unfold sTgt bindS; cases f δ S <;> rfl
@[simp] theorem s_par (i j : Nat) (f g : Dl → Store → Res) : sPar i j f g δ S = match f δ S with
  | .ok d S1 => (match g δ S1 with
    | .ok d' S2 => .nx ((δ.set i (some d)).set j (some d')) S2
    | .ex j ds S' => .ex j ds S'
    | .st => .st)
  | .ex j ds S' => .ex j ds S'
  | .st => .st := by
  unfold sPar bindS
  cases f δ S with
  | ok d S1 => first | rfl | (dsimp only; cases g δ S1 <;> rfl)
  | _ => rfl
@[simp] theorem bindT_one : bindT (.one i) d δ = some (δ.set i (some d)) := rfl
@[simp] theorem bindT_tup (is : List Nat) : bindT (.tup is) (.tup ds) δ = VI.bindL is ds δ := rfl
@[simp] theorem bindL_nil : VI.bindL [] [] δ = some δ := rfl
@[simp] theorem bindL_cons (is : List Nat) : VI.bindL (i :: is) (d :: ds) δ = VI.bindL is ds (δ.set i (some d)) := rfl
@[simp] theorem forD_nil (t : Tgt) (body : Dl → Store → SRes) : forD t body [] δ S = .nx δ S := rfl
theorem forD_cons (t : Tgt) (body : Dl → Store → SRes) : forD t body (d :: ds) δ S = match bindT t d δ with
  | none => .st
  | some δ1 => match body δ1 S with
    | .nx δ2 S2 => forD t body ds δ2 S2
    | r => r := rfl
theorem forD_step {t : Tgt} {body : Dl → Store → SRes} {δ1 δ2 : Dl} {S2 : Store} (h1 : bindT t d δ = some δ1) (h2 : body δ1 S = .nx δ2 S2) : forD t body (d :: ds) δ S = forD t body ds δ2 S2 := by rw [forD_cons, h1]; dsimp only; rw [h2]
theorem forD_ret {t : Tgt} {body : Dl → Store → SRes} {δ1 : Dl} {S2 : Store} {e : D} (h1 : bindT t d δ = some δ1) (h2 : body δ1 S = .ret e S2) : forD t body (d :: ds) δ S = .ret e S2 := by rw [forD_cons, h1]; dsimp only; rw [h2]
@[simp] theorem lcD_nil (t : Tgt) (c f : Dl → Store → Res) : lcD t c f δ [] S = .ok [] S := rfl
theorem lcD_cons (t : Tgt) (c f : Dl → Store → Res) : lcD t c f δ (d :: ds) S = match bindT t d δ with
  | none => .st
  | some δ1 => match c δ1 S with
    | .ok (.bl true) S1 => (match f δ1 S1 with
      | .ok d S2 => (match lcD t c f δ ds S2 with
        | .ok ds S3 => .ok (d :: ds) S3
        | _ => .st)
      | _ => .st)
    | .ok (.bl false) S1 => lcD t c f δ ds S1
    | _ => .st := by rw [lcD] <;> rfl
@[simp] theorem e_yes : fYes δ S = .ok (.bl true) S := rfl
/-! values -/
@[simp] theorem der_non : der S .non = .non := rfl
@[simp] theorem der_bl (b : Bool) : der S (.bl b) = .bl b := rfl
@[simp] theorem der_int (b : Int) : der S (.int b) = .int b := rfl
@[simp] theorem der_str (b : Str) : der S (.str b) = .str b := rfl
@[simp] theorem der_lst : der S (.lst xs) = .lst xs := rfl
@[simp] theorem der_tup : der S (.tup xs) = .tup xs := rfl
@[simp] theorem der_dct (t : Bool) : der S (.dct t xs ys) = .dct t xs ys := rfl
@[simp] theorem der_exc : der S (.exc j xs) = .exc j xs := rfl
theorem der_cell {n : Nat} {s : Cell} (h : S[n]? = some s) : der S (.cell n) = s.d := by simp [der, h]
@[simp] theorem Celld_lst : Cell.d (.lst xs) = .lst xs := rfl
@[simp] theorem Celld_dct (t : Bool) : Cell.d (.dct t xs ys) = .dct t xs ys := rfl
@[simp] theorem ix0 : atI (d :: xs) 0 = some d := by simp [atI, ixN]
@[simp] theorem ix1 : atI (d' :: d :: xs) 1 = some d := by
  have : (1 : Int) < (xs.length : Int) + 1 + 1 := by omega
  simp [atI, ixN, this]
@[simp] theorem ix2 {a b : D} : atI (a :: b :: d :: xs) 2 = some d := by
  have : (2 : Int) < (xs.length : Int) + 1 + 1 + 1 := by omega
  simp [atI, ixN, this]
theorem ixn {k : Nat} (h : xs[k]? = some d) : atI xs (k : Int) = some d := by
  have h1 : k < xs.length := (List.getElem?_eq_some_iff.mp h).1
  have h2 := (List.getElem?_eq_some_iff.mp h).2
  simp [atI, ixN, h1, h2]
/-- d is a list or tuple of xs, cells followed -/
def Sq (S : Store) (d : D) (xs : List D) : Prop := der S d = .lst xs ∨ der S d = .tup xs
theorem sq_lst : Sq S (.lst xs) xs := .inl rfl
theorem sq_tup : Sq S (.tup xs) xs := .inr rfl
theorem Sq.ix (h : Sq S d xs) (i : Int) : gIx S d (.int i) = atI xs i := by rcases h with h | h <;> simp [gIx, h]
theorem Sq.len (h : Sq S d xs) : gLen S [d] = some (.int (xs.length : Nat)) := by rcases h with h | h <;> simp [gLen, h]
theorem Sq.isi2 (h : Sq S d xs) : gIsi1 [.list, .tuple] S d = some (.bl true) := by rcases h with h | h <;> simp [gIsi1, tyD, h, isTy]
theorem Sq.it (h : Sq S d xs) : seqIt (der S d) = some xs := by rcases h with h | h <;> simp [h]
@[simp] theorem ix_tup (k : Int) : gIx S (.tup xs) (.int k) = atI xs k := rfl
@[simp] theorem ix_lst (k : Int) : gIx S (.lst xs) (.int k) = atI xs k := rfl
@[simp] theorem len_tup : gLen S [.tup xs] = some (.int (xs.length : Nat)) := rfl
@[simp] theorem len_lst : gLen S [.lst xs] = some (.int (xs.length : Nat)) := rfl
@[simp] theorem eq_int (a b : Int) (neg : Bool) : gEq neg S (.int a) (.int b) = some (.bl (if neg then !decide (a = b) else decide (a = b))) := by
  cases neg <;> simp [gEq, D.plain, D.eqv, BEq.beq, instBEqOfDecidableEq]
@[simp] theorem eq_str (a b : Str) (neg : Bool) : gEq neg S (.str a) (.str b) = some (.bl (if neg then !decide (a = b) else decide (a = b))) := rfl
@[simp] theorem add_int (a b : Int) : gAdd S (.int a) (.int b) = some (.int (a + b)) := by simp [gAdd]
@[simp] theorem sub_int (a b : Int) : VI.gSub S (.int a) (.int b) = some (.int (a - b)) := by simp [VI.gSub, gII]
@[simp] theorem cat_lst : gCat S (.lst xs) (.lst ys) = if xs.length + ys.length ≤ 16777216 then some (.lst (xs ++ ys)) else none := by
  unfold gCat; simp [sizeLine_eq]
@[simp] theorem gt_int (a b : Int) : gGt S (.int a) (.int b) = some (.bl (decide (a > b))) := by simp [gGt, gII]
@[simp] theorem ge_int (a b : Int) : gGe S (.int a) (.int b) = some (.bl (decide (a ≥ b))) := by simp [gGe, gII]
@[simp] theorem lt_int (a b : Int) : gLt S (.int a) (.int b) = some (.bl (decide (a < b))) := by simp [gLt, gII]
@[simp] theorem le_int (a b : Int) : gLe S (.int a) (.int b) = some (.bl (decide (a ≤ b))) := by simp [gLe, gII]
@[simp] theorem neg_int (a : Int) : gNeg S (.int a) = some (.int (-a)) := rfl
end
end VI
end

section
set_option Elab.async false
set_option linter.all false
set_option autoImplicit false
set_option maxRecDepth 100000
/-! VP, 1: data beside the script's state; pointwise -/
namespace VI
open PySem PySem.Spec L2
@[simp] theorem e_chain (f f' f2 : Dl → Store → Res) (g g' : Store → D → D → Option D) (δ : Dl) (S : Store) : fChain f f' f2 g g' δ S = match f δ S with
  | .ok d S1 => (match f' δ S1 with
    | .ok d' S2 => (match g S2 d d' with
      | some (.bl true) => (match f2 δ S2 with
        | .ok d2 S3 => opt (g' S3 d' d2) S3
        | .ex j ds S' => .ex j ds S'
        | .st => .st)
      | some (.bl false) => .ok (.bl false) S2
      | _ => .st)
    | .ex j ds S' => .ex j ds S'
    | .st => .st)
  | .ex j ds S' => .ex j ds S'
  | .st => .st := by
  unfold fChain bindR
  cases f δ S with
  | ok d S1 => first
    | rfl
    | (dsimp only
       cases f' δ S1 with
       | ok d' S2 =>
         dsimp only
         cases g S2 d d' with
         | none => rfl
         | some e => cases e with
           | bl b => cases b with
             | true => dsimp only; cases f2 δ S2 <;> rfl
             | false => rfl
           | _ => rfl
       | _ => rfl)
  | _ => rfl
/-! lists of truths -/
@[simp] theorem bools_map (bs : List Bool) : boolsD (bs.map D.bl) = some bs := by
  induction bs with
  | nil => rfl
  | cons b bs ih => simp [boolsD, ih]
theorem bools_map2 {α : Type} (f : α → Bool) (xs : List α) : boolsD (xs.map fun x => D.bl (f x)) = some (xs.map f) := by
  rw [← bools_map (xs.map f), List.map_map]; rfl
theorem gBools_lst {S : Store} {g : List Bool → D} {xs : List D} {bs : List Bool} (h : boolsD xs = some bs) : gBools g S [.lst xs] = some (g bs) := by simp [gBools, h]
/-- a comprehension whose parts change nothing -/
theorem lc_pure {t : Tgt} {elt : Dl → Store → Res} {δ : Dl} {S : Store} {α : Type} (fx g : α → D) : ∀ (xs : List α), (∀ x ∈ xs, ∃ δ1, bindT t (fx x) δ = some δ1 ∧ elt δ1 S = .ok (g x) S) → lcD t fYes elt δ (xs.map fx) S = .ok (xs.map g) S
  | [], _ => rfl
  | x :: xs, h => by
    obtain ⟨δ1, h1, h2⟩ := h x List.mem_cons_self
    rw [List.map_cons, lcD_cons, h1]
    dsimp only
    rw [e_yes]
    dsimp only
    rw [h2]
    dsimp only
    rw [lc_pure fx g xs fun y hy => h y (List.mem_cons_of_mem _ hy)]
    rfl
/-! the script's state stands in cells 0 and 1 -/
def derR (r : Store) : D → D
  | .cell n => match n with
    | n + 2 => (match r[n]? with
      | some s => s.d
      | none => .non)
    | _ => .non
  | d => d
def Tl (S r : Store) : Prop := ∃ c0 c1, S = c0 :: c1 :: r
def Sq2 (r : Store) (d : D) (xs : List D) : Prop := derR r d = .lst xs ∨ derR r d = .tup xs
theorem derR_der {S r : Store} (h : Tl S r) {d e : D} (hd : derR r d = e) (he : e ≠ .non) : der S d = e := by
  obtain ⟨c0, c1, rfl⟩ := h
  cases d with
  | cell n =>
    match n with
    | 0 => exact absurd hd.symm he
    | 1 => exact absurd hd.symm he
    | n + 2 =>
      rw [← hd]
      simp only [derR, der, List.getElem?_cons_succ] <;> (cases r[n]? <;> rfl)
  | _ => exact hd
theorem Sq2.sq {S r : Store} (h : Tl S r) {d : D} {xs : List D} (q : Sq2 r d xs) : Sq S d xs := q.imp (fun z => derR_der h z (by simp)) fun z => derR_der h z (by simp)
theorem derR_app {r : Store} (r' : Store) {d e : D} (hd : derR r d = e) (he : e ≠ .non) : derR (r ++ r') d = e := by
  cases d with
  | cell n =>
    match n with
    | 0 => exact hd
    | 1 => exact hd
    | n + 2 =>
      simp only [derR] at hd ⊢
      cases h : r[n]? with
      | none => rw [h] at hd; exact absurd hd.symm he
      | some s => rw [List.getElem?_append_left (List.getElem?_eq_some_iff.mp h).1, h]; rw [h] at hd; exact hd
  | _ => exact hd
theorem Sq2.app {r : Store} (r' : Store) {d : D} {xs : List D} (q : Sq2 r d xs) : Sq2 (r ++ r') d xs := q.imp (fun z => derR_app r' z (by simp)) fun z => derR_app r' z (by simp)
theorem sq2_lst {r : Store} {xs : List D} : Sq2 r (.lst xs) xs := .inl rfl
theorem sq2_tup {r : Store} {xs : List D} : Sq2 r (.tup xs) xs := .inr rfl
theorem sq2_new {r : Store} {xs : List D} : Sq2 (r ++ [.lst xs]) (.cell (r.length + 2)) xs := .inl (by simp [derR])
theorem Tl.app {S r : Store} (h : Tl S r) (r' : Store) : Tl (S ++ r') (r ++ r') := by
  obtain ⟨c0, c1, rfl⟩ := h
  exact ⟨c0, c1, rfl⟩
theorem Tl.len {S r : Store} (h : Tl S r) : S.length = r.length + 2 := by
  obtain ⟨c0, c1, rfl⟩ := h
  rfl
theorem derR_new {S r : Store} (T : Tl S r) (c : Cell) (n : Store) : derR (r ++ c :: n) (.cell S.length) = c.d := by
  rw [T.len]
  simp [derR]
/-! pointwise -/
inductive All2 {α β : Type} (R : α → β → Prop) : List α → List β → Prop
  | nil : All2 R [] []
  | cons {a : α} {b : β} {as : List α} {bs : List β} : R a b → All2 R as bs → All2 R (a :: as) (b :: bs)
theorem All2.len {α β : Type} {R : α → β → Prop} : ∀ {as : List α} {bs : List β}, All2 R as bs → as.length = bs.length
  | _, _, .nil => rfl
  | _, _, .cons _ t => congrArg (· + 1) t.len
theorem All2.imp {α β : Type} {R R' : α → β → Prop} (h : ∀ a b, R a b → R' a b) : ∀ {as : List α} {bs : List β}, All2 R as bs → All2 R' as bs
  | _, _, .nil => .nil
  | _, _, .cons r t => .cons (h _ _ r) (t.imp h)
theorem All2.same {α : Type} {R : α → α → Prop} : ∀ (as : List α), (∀ a ∈ as, R a a) → All2 R as as
  | [], _ => .nil
  | a :: as, h => .cons (h a List.mem_cons_self) (All2.same as fun b hb => h b (List.mem_cons_of_mem _ hb))
theorem All2.map {α β γ δ : Type} {R : γ → δ → Prop} {f : α → γ} {g : β → δ} : ∀ {as : List α} {bs : List β}, All2 (fun a b => R (f a) (g b)) as bs → All2 R (as.map f) (bs.map g)
  | _, _, .nil => .nil
  | _, _, .cons r t => .cons r (All2.map t)
theorem All2.mapL {α γ δ : Type} {R : γ → δ → Prop} {f : α → γ} {g : α → δ} : ∀ (as : List α), (∀ a ∈ as, R (f a) (g a)) → All2 R (as.map f) (as.map g)
  | [], _ => .nil
  | a :: as, h => .cons (h a List.mem_cons_self) (All2.mapL as fun b hb => h b (List.mem_cons_of_mem _ hb))
theorem All2.app {α β : Type} {R : α → β → Prop} {as' : List α} {bs' : List β} : ∀ {as : List α} {bs : List β}, All2 R as bs → All2 R as' bs' → All2 R (as ++ as') (bs ++ bs')
  | _, _, .nil, s => s
  | _, _, .cons r t, s => .cons r (t.app s)
/-! the same thing: cells followed on the left -/
def flatD : D → Bool
  | .non => true
  | .bl _ => true
  | .int _ => true
  | .str _ => true
  | _ => false
def Sm (r : Store) : Nat → D → D → Prop
  | 0, d, e => d = e ∧ flatD e = true
  | n + 1, d, e => (d = e ∧ (flatD e = true ∨ e = .dct false [] [])) ∨ ∃ xs ys, ((derR r d = .lst xs ∧ e = .lst ys) ∨ (derR r d = .tup xs ∧ e = .tup ys)) ∧ ys.length ≤ 100000 ∧ All2 (Sm r n) xs ys
theorem Sm.app {r : Store} (r' : Store) : ∀ {n : Nat} {d e : D}, Sm r n d e → Sm (r ++ r') n d e
  | 0, _, _, h => h
  | n + 1, _, _, h => h.imp id fun ⟨xs, ys, a, b, c⟩ => ⟨xs, ys, a.imp (fun z => ⟨derR_app r' z.1 (by simp), z.2⟩) (fun z => ⟨derR_app r' z.1 (by simp), z.2⟩), b, c.imp fun _ _ => Sm.app r'⟩
theorem Sm.up {r : Store} : ∀ {n : Nat} (k : Nat) {d e : D}, Sm r n d e → Sm r (n + k) d e
  | 0, 0, _, _, h => h
  | 0, k + 1, _, _, h => by rw [Nat.zero_add]; exact .inl ⟨h.1, .inl h.2⟩
  | n + 1, k, _, _, h => by
    rw [Nat.succ_add]
    exact h.imp id fun ⟨xs, ys, a, b, c⟩ => ⟨xs, ys, a, b, c.imp fun _ _ => Sm.up k⟩
theorem Sm.le {r : Store} {n m : Nat} {d e : D} (h : Sm r n d e) (l : n ≤ m) : Sm r m d e := by
  obtain ⟨k, rfl⟩ := Nat.exists_eq_add_of_le l
  exact h.up k
theorem sm_flat {r : Store} {n : Nat} {d : D} (h : flatD d = true) : Sm r n d d := by
  cases n with
  | zero => exact ⟨rfl, h⟩
  | succ n => exact .inl ⟨rfl, .inl h⟩
theorem sm_tup {r : Store} {n : Nat} {xs ys : List D} (h : All2 (Sm r n) xs ys) (l : ys.length ≤ 100000) : Sm r (n + 1) (.tup xs) (.tup ys) := .inr ⟨xs, ys, .inr ⟨rfl, rfl⟩, l, h⟩
theorem sm_lst {r : Store} {n : Nat} {xs ys : List D} (h : All2 (Sm r n) xs ys) (l : ys.length ≤ 100000) : Sm r (n + 1) (.lst xs) (.lst ys) := .inr ⟨xs, ys, .inl ⟨rfl, rfl⟩, l, h⟩
theorem sm_dct {r : Store} {n : Nat} : Sm r (n + 1) (.dct false [] []) (.dct false [] []) := .inl ⟨rfl, .inr rfl⟩
/-- up to lists for tuples, tuples for lists -/
def Lo (r : Store) : Nat → D → D → Prop
  | 0, d, e => d = e ∧ flatD e = true
  | n + 1, d, e => (d = e ∧ flatD e = true) ∨ ∃ xs ys, Sq2 r d xs ∧ (e = .lst ys ∨ e = .tup ys) ∧ ys.length ≤ 100000 ∧ All2 (Lo r n) xs ys
theorem Lo.app {r : Store} (r' : Store) : ∀ {n : Nat} {d e : D}, Lo r n d e → Lo (r ++ r') n d e
  | 0, _, _, h => h
  | n + 1, _, _, h => h.imp id fun ⟨xs, ys, a, b, l, c⟩ => ⟨xs, ys, a.app r', b, l, c.imp fun _ _ => Lo.app r'⟩
theorem Lo.sm {r : Store} : ∀ {n : Nat} {d e : D}, Lo r n d e → ∃ e', Sm r n d e'
  | 0, d, e, h => ⟨e, h⟩
  | n + 1, d, e, h => by
    rcases h with h | ⟨xs, ys, hs, he, l, c⟩
    · exact ⟨e, .inl ⟨h.1, .inl h.2⟩⟩
    · have key : ∀ {xs ys : List D}, All2 (Lo r n) xs ys → ∃ zs, All2 (Sm r n) xs zs := fun c => by
        induction c with
        | nil => exact ⟨[], .nil⟩
        | cons a _ ih =>
          obtain ⟨z, hz⟩ := Lo.sm a
          obtain ⟨zs, hzs⟩ := ih
          exact ⟨z :: zs, .cons hz hzs⟩
      obtain ⟨zs, hz⟩ := key c
      have l2 : zs.length ≤ 100000 := by rw [← hz.len, c.len]; exact l
      rcases hs with hs | hs
      · exact ⟨.lst zs, .inr ⟨xs, zs, .inl ⟨hs, rfl⟩, l2, hz⟩⟩
      · exact ⟨.tup zs, .inr ⟨xs, zs, .inr ⟨hs, rfl⟩, l2, hz⟩⟩
end VI
end

section
set_option Elab.async false
set_option linter.all false
set_option autoImplicit false
set_option maxRecDepth 100000
/-! VP, 2: formulas -/
namespace VI
open PySem PySem.Spec L2
inductive Fm where
  | at (s : Bool) (w : Str)
  | nd (k : Bool) (l r : Fm)
def sgS (b : Bool) : Str := if b then "up" else "down"
def kdS (b : Bool) : Str := if b then "both" else "else"
def Fm.d : Fm → D
  | .at s w => .tup [.str (sgS s), .str w]
  | .nd k l r => .tup [.str (kdS k), l.d, r.d]
def Fm.sz : Fm → Nat
  | .at _ _ => 1
  | .nd _ l r => l.sz + r.sz
def Fm.dep : Fm → Nat
  | .at _ _ => 0
  | .nd _ l r => 1 + max l.dep r.dep
def Fm.tn : Fm → Fm
  | .at s w => .at (!s) w
  | .nd k l r => .nd (!k) l.tn r.tn
def Fm.ats : Fm → List (Bool × Str)
  | .at s w => [(s, w)]
  | .nd _ l r => l.ats ++ r.ats
def atD (a : Bool × Str) : D := .tup [.str (sgS a.1), .str a.2]
/-- places: false the first part, true the second -/
def Fm.pls : Fm → List (List Bool)
  | .at _ _ => [[]]
  | .nd _ l r => [] :: (l.pls.map (false :: ·) ++ r.pls.map (true :: ·))
def stD (b : Bool) : D := .int (if b then 1 else 0)
def plD (p : List Bool) : D := .lst (p.map stD)
def Fm.sub : Fm → List Bool → Fm
  | φ, [] => φ
  | .at s w, _ :: _ => .at s w
  | .nd _ l r, b :: p => if b then r.sub p else l.sub p
def Fm.put : Fm → List Bool → Fm → Fm
  | _, [], ψ => ψ
  | .at s w, _ :: _, _ => .at s w
  | .nd k l r, b :: p, ψ => if b then .nd k l (r.put p ψ) else .nd k (l.put p ψ) r
def Fm.isAt : Fm → Bool
  | .at _ _ => true
  | .nd _ _ _ => false
theorem Fm.sz_pos (φ : Fm) : 1 ≤ φ.sz := by induction φ <;> simp [Fm.sz] <;> omega
theorem Fm.dep_sz (φ : Fm) : φ.dep + 1 ≤ φ.sz := by
  induction φ with
  | «at» s w => simp [Fm.sz, Fm.dep]
  | nd k l r ihl ihr => simp only [Fm.sz, Fm.dep]; have := l.sz_pos; have := r.sz_pos; omega
theorem Fm.ats_len (φ : Fm) : φ.ats.length = φ.sz := by induction φ <;> simp_all [Fm.sz, Fm.ats]
theorem Fm.pls_len (φ : Fm) : φ.pls.length + 1 = 2 * φ.sz := by
  induction φ with
  | «at» s w => rfl
  | nd k l r ihl ihr => simp [Fm.sz, Fm.pls]; omega
theorem Fm.tn_tn (φ : Fm) : φ.tn.tn = φ := by induction φ <;> simp_all [Fm.tn]
theorem Fm.tn_dep (φ : Fm) : φ.tn.dep = φ.dep := by induction φ <;> simp_all [Fm.tn, Fm.dep]
theorem Fm.pls_le (φ : Fm) : ∀ p ∈ φ.pls, p.length ≤ φ.dep := by
  induction φ with
  | «at» s w => intro p hp; simp [Fm.pls] at hp; subst hp; simp
  | nd k l r ihl ihr =>
    intro p hp
    simp only [Fm.pls, List.mem_cons, List.mem_append, List.mem_map] at hp
    rcases hp with rfl | ⟨q, hq, rfl⟩ | ⟨q, hq, rfl⟩
    · simp
    · have := ihl q hq; simp [Fm.dep]; omega
    · have := ihr q hq; simp [Fm.dep]; omega
/-! words -/
def abcS : Str := "abcdefghijklmnopqrstuvwxyz"
def lowB (c : Nat) : Bool := decide (c ∈ abcS.cps.toList)
def allLow (w : Str) : Bool := w.cps.toList.all lowB
def letB (w : Str) : Bool := decide (0 < w.length) && allLow w
def wdB (w : Str) : Bool := letB w && decide (w.length ≤ 8)
theorem in_abc (S : Store) (c : Nat) : gIn false S (.str ⟨#[c]⟩) (.str "abcdefghijklmnopqrstuvwxyz") = some (.bl (lowB c)) := rfl
theorem signs_len (w : Str) : (signs w).length = w.length := by simp [signs, Str.length]
def Fm.ok : Fm → Prop
  | .at _ w => wdB w = true
  | .nd _ l r => l.ok ∧ r.ok
theorem Fm.tn_ok (φ : Fm) (h : φ.ok) : φ.tn.ok := by
  induction φ with
  | «at» s w => exact h
  | nd k l r ihl ihr => exact ⟨ihl h.1, ihr h.2⟩
theorem Fm.sub_ok (φ : Fm) (h : φ.ok) : ∀ p, (φ.sub p).ok := by
  induction φ with
  | «at» s w => intro p; cases p <;> exact h
  | nd k l r ihl ihr =>
    intro p
    cases p with
    | nil => exact h
    | cons b p => cases b with
      | true => exact ihr h.2 p
      | false => exact ihl h.1 p
/-! formulas as they are handed: lists and tuples, cells followed -/
inductive Fo (r : Store) : D → Fm → Prop
  | at {d : D} {s : Bool} {w : Str} : Sq2 r d [.str (sgS s), .str w] → Fo r d (.at s w)
  | nd {d a b : D} {k : Bool} {φ ψ : Fm} : Sq2 r d [.str (kdS k), a, b] → Fo r a φ → Fo r b ψ → Fo r d (.nd k φ ψ)
theorem fo_d (r : Store) : ∀ φ : Fm, Fo r φ.d φ
  | .at _ _ => .at sq2_tup
  | .nd _ φ ψ => .nd sq2_tup (fo_d r φ) (fo_d r ψ)
theorem Fo.app {r : Store} (r' : Store) : ∀ {d : D} {φ : Fm}, Fo r d φ → Fo (r ++ r') d φ
  | _, _, .at h => .at (h.app r')
  | _, _, .nd h a b => .nd (h.app r') (a.app r') (b.app r')
theorem Lo.fo {r : Store} : ∀ {n : Nat} {d : D} {φ : Fm}, Lo r n d φ.d → Fo r d φ
  | 0, d, φ, h => by cases φ <;> cases h.2
  | n + 1, d, φ, h => by
    rcases h with h | ⟨xs, ys, hs, he, _, c⟩
    · cases φ <;> cases h.2
    · have flat : ∀ {d : D} {x : Str}, Lo r n d (.str x) → d = .str x := fun h => by
        cases n with
        | zero => exact h.1
        | succ n =>
          rcases h with h | ⟨_, _, _, he, _⟩
          · exact h.1
          · rcases he with he | he <;> cases he
      cases φ with
      | «at» s w =>
        have : ys = [.str (sgS s), .str w] := by rcases he with he | he <;> cases he; rfl
        subst this
        cases c with
        | cons a c => cases c with
          | cons b c => cases c; rw [flat a, flat b] at hs; exact .at hs
      | nd k φ ψ =>
        have : ys = [.str (kdS k), φ.d, ψ.d] := by rcases he with he | he <;> cases he; rfl
        subst this
        cases c with
        | cons a c => cases c with
          | cons b c => cases c with
            | cons e c => cases c; rw [flat a] at hs; exact .nd hs (Lo.fo b) (Lo.fo e)
theorem sm_fm (r : Store) : ∀ φ : Fm, Sm r (φ.dep + 1) φ.d φ.d
  | .at _ _ => sm_tup (.cons (sm_flat rfl) (.cons (sm_flat rfl) .nil)) (by simp)
  | .nd _ φ ψ => sm_tup (.cons (sm_flat rfl) (.cons ((sm_fm r φ).le (by simp [Fm.dep]; omega)) (.cons ((sm_fm r ψ).le (by simp [Fm.dep]; omega)) .nil))) (by simp)
/-! texts of signs and kinds -/
theorem in_str2 (S : Store) (neg : Bool) (x a b : Str) : gIn neg S (.str x) (.tup [.str a, .str b]) = some (.bl (if neg then !(decide (a = x) || decide (b = x)) else (decide (a = x) || decide (b = x)))) := by
  cases neg <;> simp [gIn, D.flat, D.eqv, BEq.beq, instBEqOfDecidableEq]
@[simp] theorem in_sg_ud (S : Store) (neg s : Bool) : gIn neg S (.str (sgS s)) (.tup [.str "up", .str "down"]) = some (.bl (!neg)) := by
  rw [in_str2]
  have : (decide (("up" : Str) = sgS s) || decide (("down" : Str) = sgS s)) = true := by cases s <;> decide +kernel
  rw [this]; cases neg <;> rfl
@[simp] theorem in_kd_ud (S : Store) (neg s : Bool) : gIn neg S (.str (kdS s)) (.tup [.str "up", .str "down"]) = some (.bl neg) := by
  rw [in_str2]
  have : (decide (("up" : Str) = kdS s) || decide (("down" : Str) = kdS s)) = false := by cases s <;> decide +kernel
  rw [this]; cases neg <;> rfl
@[simp] theorem in_kd_be (S : Store) (neg s : Bool) : gIn neg S (.str (kdS s)) (.tup [.str "both", .str "else"]) = some (.bl (!neg)) := by
  rw [in_str2]
  have : (decide (("both" : Str) = kdS s) || decide (("else" : Str) = kdS s)) = true := by cases s <;> decide +kernel
  rw [this]; cases neg <;> rfl
@[simp] theorem in_sg_be (S : Store) (neg s : Bool) : gIn neg S (.str (sgS s)) (.tup [.str "both", .str "else"]) = some (.bl neg) := by
  rw [in_str2]
  have : (decide (("both" : Str) = sgS s) || decide (("else" : Str) = sgS s)) = false := by cases s <;> decide +kernel
  rw [this]; cases neg <;> rfl
theorem in_sign (S : Store) (neg : Bool) (c : Nat) (y : Str) : gIn neg S (.str ⟨#[c]⟩) (.str y) = some (.bl (if neg then !decide (c ∈ y.cps.toList) else decide (c ∈ y.cps.toList))) := by simp [gIn]
/-! more rules -/
theorem cat_of {S : Store} {d d' : D} {xs ys : List D} (h : der S d = .lst xs) (h' : der S d' = .lst ys) (l : xs.length + ys.length ≤ 16777216) : gCat S d d' = some (.lst (xs ++ ys)) := by
  simp [gCat, h, h', sizeLine_eq, l]
@[simp] theorem s_set (i : Nat) (fi fv : Dl → Store → Res) (δ : Dl) (S : Store) : sSet i fi fv δ S = match fv δ S with
  | .ok v S1 => (match fi δ S1 with
    | .ok k S2 => (match δ[i]? with
      | some (some d) => (match mSet S2 d k v with
        | some d' => .nx (δ.set i (some d')) S2
        | none => .st)
      | _ => .st)
    | .ex j ds S' => .ex j ds S'
    | .st => .st)
  | .ex j ds S' => .ex j ds S'
  | .st => .st := by
  unfold sSet bindS
  cases fv δ S with
  | ok v S1 => first | rfl | (dsimp only; cases fi δ S1 <;> rfl)
  | _ => rfl
theorem mset0 (S : Store) (a v : D) (xs : List D) : mSet S (.lst (a :: xs)) (.int 0) v = some (.lst (v :: xs)) := by simp [mSet, ixN]
theorem mset1 (S : Store) (a b v : D) (xs : List D) : mSet S (.lst (a :: b :: xs)) (.int 1) v = some (.lst (a :: v :: xs)) := by
  have : (1 : Int) < (xs.length : Int) + 1 + 1 := by omega
  simp [mSet, ixN, this]
theorem cut1 {α : Type} (x : α) (xs : List α) : cutL (x :: xs) (some 1) none = xs := by
  have h1 : HT.sIx (x :: xs).length 0 (some 1) = 1 := by simp [HT.sIx]
  have h2 : HT.sIx (x :: xs).length (x :: xs).length none = xs.length + 1 := by simp [HT.sIx]
  unfold cutL
  rw [h1, h2]
  simp
/-! lists of unlike words -/
def addU (acc : List Str) (w : Str) : List Str := if w ∈ acc then acc else acc ++ [w]
def unl (ws : List Str) : List Str := ws.foldl addU []
theorem any_beq_str (ks : List Str) (w : Str) : ((ks.map D.str).any fun k => D.beq k (.str w)) = decide (w ∈ ks) := by
  induction ks with
  | nil => rfl
  | cons k ks ih =>
    rw [List.map_cons, List.any_cons, ih, D.beq]
    by_cases h : k = w
    · subst h; simp
    · simp [h, Ne.symm h]
theorem dput_str (ks : List Str) (w : Str) : dput (ks.map .str) (ks.map fun _ => .bl true) (.str w) (.bl true) = ((addU ks w).map .str, (addU ks w).map fun _ => .bl true) := by
  unfold dput addU
  rw [any_beq_str]
  by_cases h : w ∈ ks
  · rw [if_pos (by simpa using h), if_pos h]
    congr 1
    have : ∀ (f : D → Bool) (l : List Str), List.zipWith (fun k v => if f k = true then VI.D.bl true else v) (l.map D.str) (l.map fun _ => D.bl true) = l.map fun _ => D.bl true := by
      intro f l
      induction l with
      | nil => rfl
      | cons a l ih => simp only [List.map_cons, List.zipWith_cons_cons, ih]; congr 1; split <;> rfl
    exact this _ ks
  · rw [if_neg (by simpa using h), if_neg h]
    simp
/-! places -/
theorem Fm.put_ok (φ : Fm) (h : φ.ok) {ψ : Fm} (h' : ψ.ok) : ∀ p, (φ.put p ψ).ok := by
  induction φ with
  | «at» s w => intro p; cases p <;> first | exact h' | exact h
  | nd k l r ihl ihr =>
    intro p
    cases p with
    | nil => exact h'
    | cons b p => cases b with
      | true => exact ⟨h.1, ihr h.2 p⟩
      | false => exact ⟨ihl h.1 p, h.2⟩
theorem Fm.sub_dep (φ : Fm) : ∀ p, (φ.sub p).dep ≤ φ.dep := by
  induction φ with
  | «at» s w => intro p; cases p <;> simp [Fm.sub]
  | nd k l r ihl ihr =>
    intro p
    cases p with
    | nil => simp [Fm.sub]
    | cons b p => cases b with
      | true => have := ihr p; simp [Fm.sub, Fm.dep] at *; omega
      | false => have := ihl p; simp [Fm.sub, Fm.dep] at *; omega
theorem Fm.put_dep (φ ψ : Fm) : ∀ p, (φ.put p ψ).dep ≤ φ.dep + ψ.dep := by
  induction φ with
  | «at» s w => intro p; cases p <;> simp [Fm.put]
  | nd k l r ihl ihr =>
    intro p
    cases p with
    | nil => simp [Fm.put]
    | cons b p => cases b with
      | true => have := ihr p; simp [Fm.put, Fm.dep] at *; omega
      | false => have := ihl p; simp [Fm.put, Fm.dep] at *; omega
/-- whether bits lead to a place -/
def Fm.has : Fm → List Bool → Bool
  | _, [] => true
  | .at _ _, _ :: _ => false
  | .nd _ l r, b :: p => if b then r.has p else l.has p
theorem Fm.has_pls (φ : Fm) : ∀ p ∈ φ.pls, φ.has p = true := by
  induction φ with
  | «at» s w => intro p hp; simp [Fm.pls] at hp; subst hp; rfl
  | nd k l r ihl ihr =>
    intro p hp
    simp only [Fm.pls, List.mem_cons, List.mem_append, List.mem_map] at hp
    rcases hp with rfl | ⟨q, hq, rfl⟩ | ⟨q, hq, rfl⟩
    · rfl
    · exact ihl q hq
    · exact ihr q hq
theorem Fm.has_le (φ : Fm) : ∀ p, φ.has p = true → p.length ≤ φ.dep := by
  induction φ with
  | «at» s w => intro p hp; cases p with
    | nil => simp
    | cons b p => cases hp
  | nd k l r ihl ihr =>
    intro p hp
    cases p with
    | nil => simp
    | cons b p => cases b with
      | true => have := ihr p hp; simp [Fm.dep]; omega
      | false => have := ihl p hp; simp [Fm.dep]; omega
theorem Fo.at_sub {r : Store} {d : D} {φ : Fm} (h : Fo r d φ) : ∀ p, φ.has p = true → ∃ d', Fo r d' (φ.sub p) := by
  induction h with
  | «at» h => intro p hp; cases p with
    | nil => exact ⟨_, .at h⟩
    | cons b p => cases hp
  | nd h h1 h2 ih1 ih2 =>
    intro p hp
    cases p with
    | nil => exact ⟨_, .nd h h1 h2⟩
    | cons b p => cases b with
      | true => exact ih2 p hp
      | false => exact ih1 p hp
/-- whether ints lead to a place -/
def Fm.isPl : Fm → List Int → Bool
  | _, [] => true
  | .at _ _, _ :: _ => false
  | .nd _ l r, z :: zs => if z = 0 then l.isPl zs else if z = 1 then r.isPl zs else false
theorem Fm.isPl_has (φ : Fm) : ∀ p : List Bool, φ.isPl (p.map fun b => if b then 1 else 0) = φ.has p := by
  induction φ with
  | «at» s w => intro p; cases p <;> rfl
  | nd k l r ihl ihr =>
    intro p
    cases p with
    | nil => rfl
    | cons b p => cases b with
      | true => simp [Fm.isPl, Fm.has, ihr]
      | false => simp [Fm.isPl, Fm.has, ihl]
theorem Fm.isPl_le (φ : Fm) : ∀ zs, φ.isPl zs = true → zs.length ≤ φ.dep := by
  induction φ with
  | «at» s w => intro p hp; cases p with
    | nil => simp
    | cons b p => cases hp
  | nd k l r ihl ihr =>
    intro p hp
    cases p with
    | nil => simp
    | cons b p =>
      simp only [Fm.isPl] at hp
      split at hp
      · have := ihl p hp; simp [Fm.dep]; omega
      · split at hp
        · have := ihr p hp; simp [Fm.dep]; omega
        · cases hp
theorem plD_ints (p : List Bool) : p.map stD = (p.map fun b => if b then (1 : Int) else 0).map D.int := by simp [stD]
end VI
end

section
set_option Elab.async false
set_option linter.all false
set_option autoImplicit false
set_option maxRecDepth 100000
/-! VP, 3: drawn things -/
namespace VI
open PySem PySem.Spec L2
@[simp] theorem eq_bl (S : Store) (a b neg : Bool) : gEq neg S (.bl a) (.bl b) = some (.bl (if neg then a != b else a == b)) := by
  cases neg <;> simp [gEq, D.plain, D.eqv, bne]
/-! trees without cells, short texts -/
def flS : D → Bool
  | .non => true
  | .bl _ => true
  | .int _ => true
  | .str x => decide (x.length ≤ 1000)
  | _ => false
theorem flS_flat {d : D} (h : flS d = true) : flatD d = true := by cases d <;> first | rfl | cases h
def Tr : Nat → D → Prop
  | 0, e => flS e = true
  | n + 1, e => flS e = true ∨ e = .dct false [] [] ∨ ∃ ys, (e = .lst ys ∨ e = .tup ys) ∧ ys.length ≤ 100000 ∧ ∀ y ∈ ys, Tr n y
theorem Tr.sm (r : Store) : ∀ {n : Nat} {e : D}, Tr n e → Sm r n e e
  | 0, _, h => ⟨rfl, flS_flat h⟩
  | n + 1, e, h => by
    rcases h with h | h | ⟨ys, h, l, t⟩
    · exact sm_flat (flS_flat h)
    · exact .inl ⟨rfl, .inr h⟩
    · refine .inr ⟨ys, ys, ?_, l, All2.same ys fun y hy => Tr.sm r (t y hy)⟩
      rcases h with rfl | rfl
      · exact .inl ⟨rfl, rfl⟩
      · exact .inr ⟨rfl, rfl⟩
theorem Tr.up : ∀ {n : Nat} (k : Nat) {e : D}, Tr n e → Tr (n + k) e
  | 0, 0, _, h => h
  | 0, k + 1, _, h => by rw [Nat.zero_add]; exact .inl h
  | n + 1, k, _, h => by
    rw [Nat.succ_add]
    exact h.imp id fun h => h.imp id fun ⟨ys, a, l, t⟩ => ⟨ys, a, l, fun y hy => Tr.up k (t y hy)⟩
theorem Tr.le {n m : Nat} {e : D} (h : Tr n e) (l : n ≤ m) : Tr m e := by
  obtain ⟨k, rfl⟩ := Nat.exists_eq_add_of_le l
  exact h.up k
theorem tr_flat {n : Nat} {e : D} (h : flS e = true) : Tr n e := by
  cases n with
  | zero => exact h
  | succ n => exact .inl h
theorem tr_tup {n : Nat} {ys : List D} (l : ys.length ≤ 100000) (h : ∀ y ∈ ys, Tr n y) : Tr (n + 1) (.tup ys) := .inr (.inr ⟨ys, .inr rfl, l, h⟩)
theorem tr_lst {n : Nat} {ys : List D} (l : ys.length ≤ 100000) (h : ∀ y ∈ ys, Tr n y) : Tr (n + 1) (.lst ys) := .inr (.inr ⟨ys, .inl rfl, l, h⟩)
theorem tr_dct {n : Nat} : Tr (n + 1) (.dct false [] []) := .inr (.inl rfl)
theorem tr_fm : ∀ φ : Fm, φ.ok → Tr (φ.dep + 1) φ.d
  | .at s w, ok => by
    refine tr_tup (by simp) fun y hy => ?_
    simp only [List.mem_cons, List.not_mem_nil, or_false] at hy
    rcases hy with rfl | rfl
    · exact tr_flat (by cases s <;> decide +kernel)
    · refine tr_flat ?_
      have : w.length ≤ 8 := by
        have ok : wdB w = true := ok
        simp only [wdB, Bool.and_eq_true, decide_eq_true_eq] at ok
        exact ok.2
      simp only [flS, decide_eq_true_eq]
      omega
  | .nd k φ ψ, ok => by
    refine tr_tup (by simp) fun y hy => ?_
    simp only [List.mem_cons, List.not_mem_nil, or_false] at hy
    rcases hy with rfl | rfl | rfl
    · exact tr_flat (by cases k <;> decide +kernel)
    · exact (tr_fm φ ok.1).le (by simp [Fm.dep]; omega)
    · exact (tr_fm ψ ok.2).le (by simp [Fm.dep]; omega)
theorem tr_pl (p : List Bool) (h : p.length ≤ 100000) : Tr 1 (plD p) := tr_lst (by simpa) fun y hy => by
  obtain ⟨b, _, rfl⟩ := List.mem_map.mp hy
  rfl
/-! lists and tuples alone, to be loosened; how many -/
def Tq : Nat → D → Prop
  | 0, e => flatD e = true
  | n + 1, e => flatD e = true ∨ ∃ ys, (e = .lst ys ∨ e = .tup ys) ∧ ys.length ≤ 100000 ∧ ∀ y ∈ ys, Tq n y
def cst : Nat → D → Nat
  | 0, _ => 0
  | n + 1, .lst ys => 1 + (ys.map (cst n)).sum
  | n + 1, .tup ys => 1 + (ys.map (cst n)).sum
  | _ + 1, _ => 0
theorem cst_flat {n : Nat} {e : D} (h : flatD e = true) : cst n e = 0 := by cases n <;> cases e <;> first | rfl | cases h
theorem cst_str {n : Nat} {x : Str} : cst n (.str x) = 0 := cst_flat rfl
theorem cst_fm : ∀ (φ : Fm) (n : Nat), cst n φ.d + 1 ≤ 2 * φ.sz
  | .at s w, 0 => by simp [cst, Fm.sz]
  | .nd k l r, 0 => by have := (Fm.nd k l r).sz_pos; simp [cst]; omega
  | .at s w, n + 1 => by simp [cst, Fm.d, Fm.sz, cst_str]
  | .nd k l r, n + 1 => by
    have h1 := cst_fm l n
    have h2 := cst_fm r n
    simp [cst, Fm.d, Fm.sz, cst_str]
    omega
theorem tq_fm : ∀ (φ : Fm), ∀ n, φ.dep + 1 ≤ n → Tq n φ.d
  | .at s w, n, h => by
    obtain ⟨n, rfl⟩ : ∃ k, n = k + 1 := Nat.exists_eq_add_of_le' (by omega)
    refine .inr ⟨_, .inr rfl, by simp, fun y hy => ?_⟩
    simp only [List.mem_cons, List.not_mem_nil, or_false] at hy
    rcases hy with rfl | rfl <;> cases n <;> first | rfl | exact .inl rfl
  | .nd k l r, n, h => by
    simp only [Fm.dep] at h
    obtain ⟨n, rfl⟩ : ∃ k, n = k + 1 := Nat.exists_eq_add_of_le' (by omega)
    refine .inr ⟨_, .inr rfl, by simp, fun y hy => ?_⟩
    simp only [List.mem_cons, List.not_mem_nil, or_false] at hy
    rcases hy with rfl | rfl | rfl
    · cases n <;> first | rfl | exact .inl rfl
    · exact tq_fm l n (by omega)
    · exact tq_fm r n (by omega)
theorem tq_pl (p : List Bool) (h : p.length ≤ 100000) : Tq 1 (plD p) := .inr ⟨_, .inl rfl, by simpa, fun y hy => by
  obtain ⟨b, _, rfl⟩ := List.mem_map.mp hy
  rfl⟩
theorem cst_pl (p : List Bool) : cst 1 (plD p) = 1 := by
  have : ∀ p : List Bool, ((p.map stD).map (cst 0)).sum = 0 := fun p => by
    induction p with
    | nil => rfl
    | cons b p ih => simp only [List.map_cons, List.sum_cons, ih]; rfl
  show 1 + ((p.map stD).map (cst 0)).sum = 1
  rw [this]
theorem Lo.ints {r : Store} {d : D} {p : List Bool} (h : Lo r 1 d (plD p)) : Sq2 r d (p.map stD) := by
  rcases h with h | ⟨xs, ys, hs, he, l, c⟩
  · cases h.2
  · have : ys = p.map stD := by rcases he with he | he <;> cases he; rfl
    subst this
    have e : xs = p.map stD := by
      clear hs he l
      generalize p.map stD = ys at c
      induction c with
      | nil => rfl
      | cons a _ ih => rw [a.1, ih]
    exact e ▸ hs
/-! words -/
theorem low_at {x : Str} (hx : allLow x = true) (hl : x.length ≤ 1000) (S : Store) {i : Nat} (hi : i < x.length) : ∃ c, lowB c = true ∧ gIx S (.str x) (.int (i : Nat)) = some (.str ⟨#[c]⟩) := by
  have h1 : i < x.cps.toList.length := by simpa [Str.length] using hi
  refine ⟨x.cps.toList[i], List.all_eq_true.mp hx _ (List.getElem_mem h1), ?_⟩
  have h2 : x.length ≤ sizeLine := by rw [sizeLine_eq]; omega
  have h3 : atI x.cps.toList (i : Nat) = some x.cps.toList[i] := by
    have : (i : Int) < (x.cps.toList.length : Int) := by omega
    have h4 : i < x.cps.size := by simpa using h1
    simp [atI, ixN, h4]
  simp [gIx, h2, h3]
theorem low_at' {x : Str} (hx : allLow x = true) (hl : x.length ≤ 1000) (S : Store) {i : Int} (h0 : 0 ≤ i) (hi : i < (x.length : Nat)) : ∃ c, lowB c = true ∧ gIx S (.str x) (.int i) = some (.str ⟨#[c]⟩) := by
  obtain ⟨i, rfl⟩ := Int.eq_ofNat_of_zero_le h0
  exact low_at hx hl S (by omega)
theorem str_app_len (x y : Str) : (x ++ y).length = x.length + y.length := by
  show (x.append y).cps.size = _
  simp [Str.append, Str.length]
theorem str_app_low (x y : Str) : allLow (x ++ y) = (allLow x && allLow y) := by
  show ((x.append y).cps.toList.all lowB) = _
  simp [Str.append, allLow]
theorem low1 {c : Nat} (h : lowB c = true) : allLow ⟨#[c]⟩ = true := by simp [allLow, h]
theorem add_str (S : Store) (x y : Str) (h : x.length + y.length ≤ 16777216) : gAdd S (.str x) (.str y) = some (.str (x ++ y)) := by simp [gAdd, sizeLine_eq, h]
theorem wd_of {w : Str} (h1 : allLow w = true) (h2 : 0 < w.length) (h3 : w.length ≤ 8) : wdB w = true := by simp [wdB, letB, h1, h2, h3]
theorem in_strs (S : Store) (neg : Bool) (w : Str) {d : D} {ws : List Str} (h : der S d = .lst (ws.map .str)) : gIn neg S (.str w) d = some (.bl (if neg then !decide (w ∈ ws) else decide (w ∈ ws))) := by
  have f : (ws.map D.str).all D.flat = true := by simp [D.flat]
  have e : ((ws.map D.str).any fun z => D.eqv z (.str w)) = decide (w ∈ ws) := by
    clear h f
    induction ws with
    | nil => rfl
    | cons a ws ih =>
      rw [List.map_cons, List.any_cons, ih, D.eqv]
      by_cases h : a = w
      · subst h; simp
      · have : (a == w) = false := beq_eq_false_iff_ne.mpr h
        simp [this, Ne.symm h]
  simp only [gIn, h, D.flat, f, Bool.true_and, if_true, e]
/-! ranges -/
theorem rngD_len (a : Int) (n : Nat) : (rngD a n).length = n := by simp [rngD]
/-! what spoiling leaves -/
def Sp1 (d : D) : Prop := flatD d = true ∨ ∃ xs, d = .tup xs ∧ ∀ x ∈ xs, flatD x = true
/-- lists stay lists, each grows by k flat things at most -/
def Gr (k : Nat) (r r' : Store) : Prop := ∀ (c : Nat) xs, r[c]? = some (.lst xs) → ∃ zs, r'[c]? = some (.lst (xs ++ zs)) ∧ zs.length ≤ k ∧ ∀ z ∈ zs, flatD z = true
theorem Gr.refl {r : Store} : Gr 0 r r := fun c xs h => ⟨[], by rwa [List.append_nil], by simp, by simp⟩
theorem Gr.le {k l : Nat} {r r' : Store} (a : Gr k r r') (h : k ≤ l) : Gr l r r' := fun c xs hx => by
  obtain ⟨zs, h1, h2, h3⟩ := a c xs hx
  exact ⟨zs, h1, by omega, h3⟩
theorem Gr.trans {k l : Nat} {r r' r'' : Store} (a : Gr k r r') (b : Gr l r' r'') : Gr (k + l) r r'' := fun c xs h => by
  obtain ⟨ys, h1, h2, h3⟩ := a c xs h
  obtain ⟨zs, g1, g2, g3⟩ := b c _ h1
  refine ⟨ys ++ zs, by rw [← List.append_assoc]; exact g1, by simp; omega, fun z hz => ?_⟩
  rcases List.mem_append.mp hz with hz | hz
  · exact h3 z hz
  · exact g3 z hz
theorem gr_set {r : Store} {c : Nat} {xs : List D} {y : D} (h : r[c]? = some (.lst xs)) (hy : flatD y = true) : Gr 1 r (r.set c (.lst (xs ++ [y]))) := fun c' zs h' => by
  have hl := (List.getElem?_eq_some_iff.mp h).1
  by_cases e : c = c'
  · subst e
    rw [h] at h'
    cases h'
    exact ⟨[y], List.getElem?_set_self hl, by simp, by simpa using hy⟩
  · exact ⟨[], by rw [List.getElem?_set_ne e, List.append_nil]; exact h', by simp, by simp⟩
@[simp] theorem e_cm (fo : Dl → Store → Res) (f : Dl → Store → Ress) (g : MutF) (δ : Dl) (S : Store) : fCm fo f g δ S = match fo δ S with
  | .ok (.cell n) S1 => (match S1[n]? with
    | some (.lst _) => (match f δ S1 with
      | .st => .st
      | .ex j ds S' => .ex j ds S'
      | .ok ds S2 => match S2[n]? with
        | some s => (match g S2 s.d ds with
          | some (e, d') => (match cellOf d' with
            | some s' => .ok e (S2.set n s')
            | none => .st)
          | none => .st)
        | none => .st)
    | _ => .st)
  | .ok _ _ => .st
  | .ex j ds S' => .ex j ds S'
  | .st => .st := by
  unfold fCm bindR
  cases fo δ S with
  | ok d S1 => cases d <;> rfl
  | _ => rfl
theorem app_lst (S : Store) (xs : List D) (y : D) (h : xs.length < 16777216) : mApp S (.lst xs) [y] = some (.non, .lst (xs ++ [y])) := by simp [mApp, sizeLine_eq, h]
@[simp] theorem s_M (i : Nat) (f : Dl → Store → Ress) (g : MutF) (k : D → Dl → Store → SRes) (δ : Dl) (S : Store) : sM i f g k δ S = match δ[i]? with
  | some (some (.lst xs)) => (match f δ S with
    | .st => .st
    | .ex j ds S' => .ex j ds S'
    | .ok ds S' => match g S' (.lst xs) ds with
      | some (e, d') => k e (δ.set i (some d')) S'
      | none => .st)
  | _ => .st := rfl
theorem ext_lst (S : Store) (xs ys : List D) (h : xs.length + ys.length ≤ 16777216) : mExt S (.lst xs) [.lst ys] = some (.non, .lst (xs ++ ys)) := by simp [mExt, sizeLine_eq, h]
theorem seq_nx {f g : Dl → Store → SRes} {δ δ1 : Dl} {S S1 : Store} {R : SRes} (h : f δ S = .nx δ1 S1) (h2 : g δ1 S1 = R) : sSeq f g δ S = R := by rw [s_seq, h]; exact h2
theorem seq_ret {f g : Dl → Store → SRes} {δ : Dl} {S S1 : Store} {d : D} (h : f δ S = .ret d S1) : sSeq f g δ S = .ret d S1 := by rw [s_seq, h]
theorem for_nx {t : Tgt} {it : Dl → Store → Ress} {body : Dl → Store → SRes} {δ δ1 : Dl} {S S1 S2 : Store} {items : List D} (h : it δ S = .ok items S1) (h2 : forD t body items δ S1 = .nx δ1 S2) : sFor t it body δ S = .nx δ1 S2 := by rw [s_for, h]; exact h2
@[simp] theorem e_callV (i : Nat) (js : List Nat) (fa : Dl → Store → Ress) (rn : Nat → List D → Store → Res) (δ : Dl) (S : Store) : fCallV i js fa rn δ S = match δ[i]? with
  | some (some (.fn j)) => if js.contains j then fCall fa (rn j) δ S else .st
  | _ => .st := rfl
end VI
end

section
set_option Elab.async false
set_option linter.all false
set_option autoImplicit false
set_option maxRecDepth 100000
/-! VP, 4: comprehensions that choose; unlike words -/
namespace VI
open PySem PySem.Spec L2
theorem lc_filter {t : Tgt} {cond elt : Dl → Store → Res} {δ : Dl} {S : Store} {α : Type} (fx g : α → D) (p : α → Bool) : ∀ (xs : List α), (∀ x ∈ xs, ∃ δ1, bindT t (fx x) δ = some δ1 ∧ cond δ1 S = .ok (.bl (p x)) S ∧ elt δ1 S = .ok (g x) S) → lcD t cond elt δ (xs.map fx) S = .ok ((xs.filter p).map g) S
  | [], _ => rfl
  | x :: xs, h => by
    obtain ⟨δ1, h1, h2, h3⟩ := h x List.mem_cons_self
    have ih := lc_filter fx g p xs fun y hy => h y (List.mem_cons_of_mem _ hy)
    rw [List.map_cons, lcD_cons, h1]
    dsimp only
    rw [h2]
    cases hp : p x with
    | true =>
      dsimp only
      rw [h3]
      dsimp only
      rw [ih, List.filter_cons_of_pos hp]
      rfl
    | false =>
      dsimp only
      rw [ih, List.filter_cons_of_neg (by simp [hp])]
theorem cutTake {α : Type} (xs : List α) (k : Nat) (h : k ≤ xs.length) : cutL xs none (some (k : Nat)) = xs.take k := by
  have h1 : HT.sIx xs.length 0 none = 0 := by simp [HT.sIx]
  have h2 : HT.sIx xs.length xs.length (some (k : Nat)) = k := by
    have : ¬ ((k : Int) < 0) := by omega
    simp [HT.sIx, this]; omega
  unfold cutL
  rw [h1, h2]
  simp
theorem cutDrop {α : Type} (xs : List α) (k : Nat) (h : k ≤ xs.length) : cutL xs (some (k : Nat)) none = xs.drop k := by
  have h1 : HT.sIx xs.length 0 (some (k : Nat)) = k := by
    have : ¬ ((k : Int) < 0) := by omega
    simp [HT.sIx, this]; omega
  have h2 : HT.sIx xs.length xs.length none = xs.length := by simp [HT.sIx]
  unfold cutL
  rw [h1, h2]
  rw [List.take_of_length_le (by simp)]
theorem rngD0 (n : Nat) : rngD 0 n = (List.range n).map fun i => D.int (i : Nat) := by simp [rngD]
theorem mem_unl_acc (ws : List Str) : ∀ (acc : List Str) (w : Str), w ∈ ws.foldl addU acc ↔ w ∈ acc ∨ w ∈ ws := by
  induction ws with
  | nil => intro acc w; simp
  | cons a ws ih =>
    intro acc w
    rw [List.foldl_cons, ih]
    unfold addU
    by_cases h : a ∈ acc
    · rw [if_pos h]
      constructor
      · rintro (z | z)
        · exact .inl z
        · exact .inr (List.mem_cons_of_mem _ z)
      · rintro (z | z)
        · exact .inl z
        · rcases List.mem_cons.mp z with rfl | z
          · exact .inl h
          · exact .inr z
    · rw [if_neg h]
      rw [List.mem_append, List.mem_singleton, List.mem_cons, or_assoc]
theorem mem_unl (ws : List Str) (w : Str) : w ∈ unl ws ↔ w ∈ ws := by
  unfold unl
  rw [mem_unl_acc]
  simp
theorem unl_len_acc (ws : List Str) : ∀ (acc : List Str), (ws.foldl addU acc).length ≤ acc.length + ws.length := by
  induction ws with
  | nil => intro acc; simp
  | cons a ws ih =>
    intro acc
    rw [List.foldl_cons]
    have := ih (addU acc a)
    have h2 : (addU acc a).length ≤ acc.length + 1 := by unfold addU; split <;> simp
    simp only [List.length_cons]
    omega
theorem unl_len (ws : List Str) : (unl ws).length ≤ ws.length := by simpa [unl] using unl_len_acc ws []
def unl2 (ws : List Str) : List Str := ((List.range ws.length).filter fun k => !decide (ws.getD k "" ∈ ws.take k)).map fun k => ws.getD k ""
theorem unl2_eq (ws : List Str) : unl2 ws = unl ws := by
  suffices h : ∀ (r : List Str), unl2 r.reverse = unl r.reverse by
    have := h ws.reverse
    rwa [List.reverse_reverse] at this
  intro r
  induction r with
  | nil => rfl
  | cons w r ih =>
    rw [List.reverse_cons]
    generalize r.reverse = vs at ih
    have h1 : unl (vs ++ [w]) = addU (unl vs) w := by unfold unl; rw [List.foldl_append]; rfl
    rw [h1, ← ih]
    have e1 : ∀ k ∈ List.range vs.length, (vs ++ [w]).getD k "" = vs.getD k "" ∧ (vs ++ [w]).take k = vs.take k := fun k hk => by
      have hk := List.mem_range.mp hk
      exact ⟨by simp [List.getElem?_append_left hk], by rw [List.take_append_of_le_length (by omega)]⟩
    show ((List.range (vs ++ [w]).length).filter fun k => !decide ((vs ++ [w]).getD k "" ∈ (vs ++ [w]).take k)).map (fun k => (vs ++ [w]).getD k "") = addU (unl2 vs) w
    rw [List.length_append, List.length_singleton, List.range_succ, List.filter_append, List.map_append]
    have e2 : (List.range vs.length).filter (fun k => !decide ((vs ++ [w]).getD k "" ∈ (vs ++ [w]).take k)) = (List.range vs.length).filter fun k => !decide (vs.getD k "" ∈ vs.take k) :=
      List.filter_congr fun k hk => by rw [(e1 k hk).1, (e1 k hk).2]
    have e3 : ((List.range vs.length).filter fun k => !decide (vs.getD k "" ∈ vs.take k)).map (fun k => (vs ++ [w]).getD k "") = unl2 vs := by
      unfold unl2
      exact List.map_congr_left fun k hk => (e1 k (List.mem_filter.mp hk).1).1
    rw [e2, e3]
    have hw : (vs ++ [w]).getD vs.length "" = w := by simp
    have ht : (vs ++ [w]).take vs.length = vs := by simp
    have hm : w ∈ unl2 vs ↔ w ∈ vs := by rw [ih]; exact mem_unl vs w
    by_cases h : w ∈ vs
    · rw [List.filter_cons_of_neg (by rw [hw, ht]; simpa using h)]
      rw [show addU (unl2 vs) w = unl2 vs from if_pos (hm.mpr h)]
      simp
    · rw [List.filter_cons_of_pos (by rw [hw, ht]; simpa using h)]
      rw [show addU (unl2 vs) w = unl2 vs ++ [w] from if_neg (fun z => h (hm.mp z))]
      simp
theorem rng_ok {f : Dl → Store → Ress} {δ : Dl} {S S' : Store} {k : Nat} (h : f δ S = .ok [.int (k : Nat)] S') (hk : k ≤ 16777216) : fRng f δ S = .ok (rngD 0 k) S' := by
  have h1 : -(2 ^ 62) ≤ (k : Int) ∧ (k : Int) < 2 ^ 62 := by omega
  rw [e_rng, h]
  show (if -(2 ^ 62) ≤ (k : Int) ∧ (k : Int) < 2 ^ 62 then Ress.ok (rngD 0 (k : Int).toNat) S' else .st) = _
  rw [if_pos h1]
  rfl
end VI
end

section
set_option Elab.async false
set_option linter.all false
set_option autoImplicit false
set_option maxRecDepth 100000
/-! each def, called -/
namespace K01
open PySem PySem.Spec L2 VI
theorem run_succ (n j : Nat) : run (n + 1) j = runD (K01.T.N j).length (K01.T.rk j) (body (run n) j) := rfl
theorem r_0 (n : Nat) (S : Store) (a0 : VI.D) : run (n + 1) 0 [a0] S = runF (b_0 (run n) [some a0] S) := rfl
theorem r_1 (n : Nat) (S : Store) (a0 : VI.D) : run (n + 1) 1 [a0] S = runF (b_1 (run n) [some a0] S) := rfl
theorem r_2 (n : Nat) (S : Store) (a0 : VI.D) : run (n + 1) 2 [a0] S = runF (b_2 (run n) [some a0] S) := rfl
theorem r_3 (n : Nat) (S : Store) (a0 a1 : VI.D) : run (n + 1) 3 [a0, a1] S = runF (b_3 (run n) [some a0, some a1] S) := rfl
theorem r_4 (n : Nat) (S : Store) (a0 : VI.D) : run (n + 1) 4 [a0] S = runF (b_4 (run n) [some a0] S) := rfl
theorem r_5 (n : Nat) (S : Store) (a0 : VI.D) : run (n + 1) 5 [a0] S = runF (b_5 (run n) [some a0, none] S) := rfl
theorem r_6 (n : Nat) (S : Store) (a0 : VI.D) : run (n + 1) 6 [a0] S = runF (b_6 (run n) [some a0] S) := rfl
theorem r_7 (n : Nat) (S : Store) (a0 : VI.D) : run (n + 1) 7 [a0] S = runF (b_7 (run n) [some a0] S) := rfl
theorem r_8 (n : Nat) (S : Store) (a0 : VI.D) : run (n + 1) 8 [a0] S = runF (b_8 (run n) [some a0] S) := rfl
theorem r_9 (n : Nat) (S : Store) (a0 : VI.D) : run (n + 1) 9 [a0] S = runF (b_9 (run n) [some a0] S) := rfl
theorem r_10 (n : Nat) (S : Store) (a0 : VI.D) : run (n + 1) 10 [a0] S = runF (b_10 (run n) [some a0] S) := rfl
theorem r_11 (n : Nat) (S : Store) (a0 : VI.D) : run (n + 1) 11 [a0] S = runF (b_11 (run n) [some a0] S) := rfl
theorem r_12 (n : Nat) (S : Store) (a0 : VI.D) : run (n + 1) 12 [a0] S = runF (b_12 (run n) [some a0] S) := rfl
theorem r_13 (n : Nat) (S : Store) (a0 : VI.D) : run (n + 1) 13 [a0] S = runF (b_13 (run n) [some a0] S) := rfl
theorem r_14 (n : Nat) (S : Store) (a0 : VI.D) : run (n + 1) 14 [a0] S = runF (b_14 (run n) [some a0] S) := rfl
theorem r_15 (n : Nat) (S : Store) (a0 : VI.D) : run (n + 1) 15 [a0] S = runF (b_15 (run n) [some a0] S) := rfl
theorem r_16 (n : Nat) (S : Store) (a0 : VI.D) : run (n + 1) 16 [a0] S = runF (b_16 (run n) [some a0] S) := rfl
theorem r_17 (n : Nat) (S : Store) (a0 : VI.D) : run (n + 1) 17 [a0] S = runF (b_17 (run n) [some a0] S) := rfl
theorem r_18 (n : Nat) (S : Store) (a0 : VI.D) : run (n + 1) 18 [a0] S = runF (b_18 (run n) [some a0, none, none] S) := rfl
theorem r_19 (n : Nat) (S : Store) (a0 : VI.D) : run (n + 1) 19 [a0] S = runF (b_19 (run n) [some a0, none] S) := rfl
theorem r_20 (n : Nat) (S : Store) (a0 : VI.D) : run (n + 1) 20 [a0] S = runF (b_20 (run n) [some a0] S) := rfl
theorem r_21 (n : Nat) (S : Store) (a0 a1 : VI.D) : run (n + 1) 21 [a0, a1] S = runF (b_21 (run n) [some a0, some a1, none] S) := rfl
theorem r_22 (n : Nat) (S : Store) (a0 a1 : VI.D) : run (n + 1) 22 [a0, a1] S = runF (b_22 (run n) [some a0, some a1, none] S) := rfl
theorem r_23 (n : Nat) (S : Store) (a0 a1 : VI.D) : run (n + 1) 23 [a0, a1] S = runF (b_23 (run n) [some a0, some a1] S) := rfl
theorem r_24 (n : Nat) (S : Store) (a0 a1 : VI.D) : run (n + 1) 24 [a0, a1] S = runF (b_24 (run n) [some a0, some a1] S) := rfl
theorem r_25 (n : Nat) (S : Store) (a0 a1 a2 : VI.D) : run (n + 1) 25 [a0, a1, a2] S = runF (b_25 (run n) [some a0, some a1, some a2, none] S) := rfl
theorem r_26 (n : Nat) (S : Store) (a0 a1 a2 : VI.D) : run (n + 1) 26 [a0, a1, a2] S = runF (b_26 (run n) [some a0, some a1, some a2] S) := rfl
theorem r_27 (n : Nat) (S : Store) (a0 : VI.D) : run (n + 1) 27 [a0] S = runF (b_27 (run n) [some a0] S) := rfl
theorem r_28 (n : Nat) (S : Store) (a0 a1 : VI.D) : run (n + 1) 28 [a0, a1] S = runF (b_28 (run n) [some a0, some a1, none, none, none] S) := rfl
theorem r_29 (n : Nat) (S : Store) (a0 a1 : VI.D) : run (n + 1) 29 [a0, a1] S = runF (b_29 (run n) [some a0, some a1] S) := rfl
theorem r_30 (n : Nat) (S : Store) (a0 a1 : VI.D) : run (n + 1) 30 [a0, a1] S = runF (b_30 (run n) [some a0, some a1, none, none, none] S) := rfl
theorem r_31 (n : Nat) (S : Store) (a0 a1 : VI.D) : run (n + 1) 31 [a0, a1] S = runF (b_31 (run n) [some a0, some a1, none, none, none] S) := rfl
theorem r_32 (n : Nat) (S : Store) (a0 : VI.D) : run (n + 1) 32 [a0] S = runF (b_32 (run n) [some a0, none, none, none] S) := rfl
theorem r_33 (n : Nat) (S : Store) (a0 a1 : VI.D) : run (n + 1) 33 [a0, a1] S = runF (b_33 (run n) [some a0, some a1, none, none, none, none] S) := rfl
theorem r_34 (n : Nat) (S : Store) (a0 : VI.D) : run (n + 1) 34 [a0] S = runF (b_34 (run n) [some a0, none, none] S) := rfl
theorem r_35 (n : Nat) (S : Store) (a0 a1 : VI.D) : run (n + 1) 35 [a0, a1] S = runF (b_35 (run n) [some a0, some a1, none] S) := rfl
theorem r_36 (n : Nat) (S : Store) (a0 a1 : VI.D) : run (n + 1) 36 [a0, a1] S = runF (b_36 (run n) [some a0, some a1, none, none, none, none, none] S) := rfl
theorem r_37 (n : Nat) (S : Store) (a0 a1 : VI.D) : run (n + 1) 37 [a0, a1] S = runF (b_37 (run n) [some a0, some a1] S) := rfl
theorem r_38 (n : Nat) (S : Store) (a0 a1 a2 : VI.D) : run (n + 1) 38 [a0, a1, a2] S = runF (b_38 (run n) [some a0, some a1, some a2, none] S) := rfl
theorem r_39 (n : Nat) (S : Store) (a0 : VI.D) : run (n + 1) 39 [a0] S = runF (b_39 (run n) [some a0] S) := rfl
theorem r_40 (n : Nat) (S : Store) (a0 : VI.D) : run (n + 1) 40 [a0] S = runF (b_40 (run n) [some a0, none] S) := rfl
theorem r_41 (n : Nat) (S : Store) (a0 : VI.D) : run (n + 1) 41 [a0] S = runF (b_41 (run n) [some a0] S) := rfl
theorem r_42 (n : Nat) (S : Store) (a0 : VI.D) : run (n + 1) 42 [a0] S = runF (b_42 (run n) [some a0, none] S) := rfl
theorem r_43 (n : Nat) (S : Store) (a0 : VI.D) : run (n + 1) 43 [a0] S = runF (b_43 (run n) [some a0] S) := rfl
theorem r_44 (n : Nat) (S : Store) (a0 : VI.D) : run (n + 1) 44 [a0] S = runF (b_44 (run n) [some a0, none] S) := rfl
theorem r_45 (n : Nat) (S : Store) (a0 a1 : VI.D) : run (n + 1) 45 [a0, a1] S = runF (b_45 (run n) [some a0, some a1, none] S) := rfl
theorem r_46 (n : Nat) (S : Store) (a0 a1 a2 : VI.D) : run (n + 1) 46 [a0, a1, a2] S = runF (b_46 (run n) [some a0, some a1, some a2] S) := rfl
theorem r_47 (n : Nat) (S : Store) (a0 : VI.D) : run (n + 1) 47 [a0] S = runF (b_47 (run n) [some a0, none, none] S) := rfl
theorem r_48 (n : Nat) (S : Store) (a0 : VI.D) : run (n + 1) 48 [a0] S = runF (b_48 (run n) [some a0] S) := rfl
theorem r_49 (n : Nat) (S : Store) (a0 a1 : VI.D) : run (n + 1) 49 [a0, a1] S = runF (b_49 (run n) [some a0, some a1, none] S) := rfl
theorem r_50 (n : Nat) (S : Store) (a0 a1 : VI.D) : run (n + 1) 50 [a0, a1] S = runF (b_50 (run n) [some a0, some a1, none, none, none, none, none, none, none, none] S) := rfl
theorem r_51 (n : Nat) (S : Store) (a0 : VI.D) : run (n + 1) 51 [a0] S = runF (b_51 (run n) [some a0, none, none, none, none, none, none, none, none, none, none, none, none, none, none, none] S) := rfl
end K01
end

section
set_option Elab.async false
set_option linter.all false
set_option autoImplicit false
set_option maxRecDepth 100000
set_option maxHeartbeats 0
namespace K01
open PySem PySem.Spec L2 VI
/-! the law on data -/
/-- the script's state: cell 0, the numbers left: cell 1 -/
def mkS (a : List Int) (i j k : Int) (r : Store) : Store := .lst (a.map .int) :: .lst [.cell 0, .int i, .int j, .int k] :: r
theorem start_eq (n : Nat) (ns : List Int) : run (n + 1) 27 [.scr ns] [] = .ok (.cell 1) (mkS ns 0 0 29 []) := by
  rw [run_succ]
  simp [body, b_27, K01.T, mkS, runD, sSeq, sRet, bindS, fCell, fLst, consR, finN, fVar, fCon, fNil, bindR, opt, gList, VI.cellOf, nL, psL, der, sizeLine_eq]
theorem test_no (rn : Nat → List VI.D → Store → Res) (a : List Int) (i j k many : Int) (r : Store) (x y z : Option VI.D) (hi : i ≠ 0) : wt_28_0 rn [some (.cell 1), some (.int many), x, y, z] (mkS a i j k r) = .ok (.bl false) (mkS a i j k r) := by
  have hb : (i == 0) = false := beq_eq_false_iff_ne.mpr hi
  simp [wt_28_0, mkS, fAnd, fin2, fVar, fCon, bindR, opt, gIx, gEq, der, Cell.d, atI, ixN, D.plain, D.eqv, hb]
theorem test_nil (rn : Nat → List VI.D → Store → Res) (j k many : Int) (r : Store) (x y z : Option VI.D) : wt_28_0 rn [some (.cell 1), some (.int many), x, y, z] (mkS [] 0 j k r) = .ok (.bl false) (mkS [] 0 j k r) := by
  simp [wt_28_0, mkS, fAnd, fin2, fVar, fCon, bindR, opt, gIx, gEq, der, Cell.d, atI, ixN, D.plain, D.plains, D.eqv, D.eqvs, fLst, fNil, sizeLine_eq]
theorem plains_ints : ∀ (a : List Int), D.plains 63 (a.map .int) = true
  | [] => by simp [D.plains]
  | b :: a => by simp [D.plains, D.plain, plains_ints a]
theorem test_cons (rn : Nat → List VI.D → Store → Res) (b : Int) (a : List Int) (j k many : Int) (r : Store) (x y z : Option VI.D) : wt_28_0 rn [some (.cell 1), some (.int many), x, y, z] (mkS (b :: a) 0 j k r) = .ok (.bl true) (mkS (b :: a) 0 j k r) := by
  have h := plains_ints a
  simp [wt_28_0, mkS, fAnd, fin2, fVar, fCon, bindR, opt, gIx, gEq, der, Cell.d, atI, ixN, D.plain, D.plains, D.eqv, D.eqvs, fLst, fNil, sizeLine_eq, h]
theorem body_cons (rn : Nat → List VI.D → Store → Res) (b : Int) (a : List Int) (j k many : Int) (r : Store) (x y z : Option VI.D) : ∃ i' y', 0 ≤ i' ∧ wb_28_0 rn [some (.cell 1), some (.int many), x, y, z] (mkS (b :: a) 0 j k r) = .nx [some (.cell 1), some (.int many), x, y', z] (mkS a i' j ((k * 6151 + (if b < 0 then -b else b) + 5).fmod 2147483647) r) := by
  by_cases hb : 1000000000000000000 ≤ (if b < 0 then -b else b)
  · refine ⟨if b < 0 then -b else b, some (.int (if b < 0 then -b else b)), by split <;> omega, ?_⟩
    simp [wb_28_0, mkS, sSeq, sNil, sAsg, sPar, sTgt, sExpr, sRet, sRetV, sIf, sFor, sCset, sSet, sM, bindS, bindR, opt, fin1, fin2, finN, consR, fVar, fCon, fNil, fTup, fLst, fDnew, fAnd, fOr, gNot, fIf, fCall, fCm, fCell, fExc, fExc0, fDisp1, fItP, fRng, fYes, gAdd, gCat, gII, VI.gSub, gMul, gFdv, gMod, gPow, gLt, gLe, gGt, gGe, gEq, gIn, gIx, gLen, gList, gTuple, gMax2, gMin2, gBools, boolsD, gAbs, gInt1, gIsN, gIsi1, tyD, isTy, gIsX, kitA, gFld, bMul, bDiv, bMod, bPow, der, derP, VI.cellOf, Cell.d, atI, ixN, D.plain, D.plains, D.eqv, D.eqvs, mApp, mExt, mPopAt, mSet, bindT, VI.bindL, sizeLine_eq, T, nL, psL, runD, seqIt, zipD, fZip, hb]
  · refine ⟨0, some (.int (if b < 0 then -b else b)), by omega, ?_⟩
    simp [wb_28_0, mkS, sSeq, sNil, sAsg, sPar, sTgt, sExpr, sRet, sRetV, sIf, sFor, sCset, sSet, sM, bindS, bindR, opt, fin1, fin2, finN, consR, fVar, fCon, fNil, fTup, fLst, fDnew, fAnd, fOr, gNot, fIf, fCall, fCm, fCell, fExc, fExc0, fDisp1, fItP, fRng, fYes, gAdd, gCat, gII, VI.gSub, gMul, gFdv, gMod, gPow, gLt, gLe, gGt, gGe, gEq, gIn, gIx, gLen, gList, gTuple, gMax2, gMin2, gBools, boolsD, gAbs, gInt1, gIsN, gIsi1, tyD, isTy, gIsX, kitA, gFld, bMul, bDiv, bMod, bPow, der, derP, VI.cellOf, Cell.d, atI, ixN, D.plain, D.plains, D.eqv, D.eqvs, mApp, mExt, mPopAt, mSet, bindT, VI.bindL, sizeLine_eq, T, nL, psL, runD, seqIt, zipD, fZip, hb]
theorem loop_ok (rn : Nat → List VI.D → Store → Res) (many : Int) (j : Int) (r : Store) (x z : Option VI.D) : ∀ (f : Nat) (a : List Int) (i k : Int) (y : Option VI.D), a.length < f → 0 ≤ i → 0 ≤ k → k < 2147483647 →
    ∃ a' i' k' y', whileD (wt_28_0 rn) (wb_28_0 rn) f [some (.cell 1), some (.int many), x, y, z] (mkS a i j k r) = .nx [some (.cell 1), some (.int many), x, y', z] (mkS a' i' j k' r) ∧ a'.length ≤ a.length ∧ 0 ≤ i' ∧ 0 ≤ k' ∧ k' < 2147483647 := by
  intro f
  induction f with
  | zero => intro a i k y h; omega
  | succ f ih =>
    intro a i k y h h1 h2 h3
    unfold whileD
    by_cases hi : i = 0
    · subst hi
      cases a with
      | nil => exact ⟨[], 0, k, y, by rw [test_nil]; rfl, Nat.le_refl _, by omega, h2, h3⟩
      | cons b a =>
        obtain ⟨i', y', hi', e⟩ := body_cons rn b a j k many r x y z
        rw [test_cons]
        simp only [bindS]
        rw [e]
        dsimp only
        have hm : (0 : Int) ≤ (k * 6151 + (if b < 0 then -b else b) + 5).fmod 2147483647 := Int.fmod_nonneg_of_pos _ (by omega)
        have hM : (k * 6151 + (if b < 0 then -b else b) + 5).fmod 2147483647 < 2147483647 := Int.fmod_lt_of_pos _ (by omega)
        obtain ⟨a', i2, k', y2, e2, g1, g2, g3, g4⟩ := ih a i' _ y' (by simp only [List.length_cons] at h; omega) hi' hm hM
        exact ⟨a', i2, k', y2, e2, by simp only [List.length_cons]; omega, g2, g3, g4⟩
    · exact ⟨a, i, k, y, by rw [test_no _ _ _ _ _ _ _ _ _ _ hi]; rfl, Nat.le_refl _, h1, h2, h3⟩
/-- a draw -/
theorem pick_ok (n : Nat) (many : Int) (h1 : 1 ≤ many) (h2 : many < 1000000) (a : List Int) (i j k : Int) (r : Store) (ha : a.length ≤ 63) (hi : 0 ≤ i) (hj : 0 ≤ j) (hj2 : j < 1000000) (hk : 0 ≤ k) (hk2 : k < 2147483647) :
    ∃ d a' i' k', run (n + 1) 28 [.cell 1, .int many] (mkS a i j k r) = .ok (.int d) (mkS a' i' (j + 1) k' r) ∧ 0 ≤ d ∧ d < many ∧ a'.length ≤ a.length ∧ 0 ≤ i' ∧ 0 ≤ k' ∧ k' < 2147483647 := by
  rw [run_succ]
  obtain ⟨a', i', k', y', e, g1, g2, g3, g4⟩ := loop_ok (run n) many (j + 1) r none none 70 a i k none (by omega) hi hk hk2
  have s1 : sCset (fVar 0) (fCon (.int 2)) (fin2 (fin2 (fVar 0) (fCon (.int 2)) gIx) (fCon (.int 1)) gAdd) [some (.cell 1), some (.int many), none, none, none] (mkS a i j k r) = .nx [some (.cell 1), some (.int many), none, none, none] (mkS a i (j + 1) k r) := by
    simp [mkS, sSeq, sNil, sAsg, sPar, sTgt, sExpr, sRet, sRetV, sIf, sFor, sCset, sSet, sM, bindS, bindR, opt, fin1, fin2, finN, consR, fVar, fCon, fNil, fTup, fLst, fDnew, fAnd, fOr, gNot, fIf, fCall, fCm, fCell, fExc, fExc0, fDisp1, fItP, fRng, fYes, gAdd, gCat, gII, VI.gSub, gMul, gFdv, gMod, gPow, gLt, gLe, gGt, gGe, gEq, gIn, gIx, gLen, gList, gTuple, gMax2, gMin2, gBools, boolsD, gAbs, gInt1, gIsN, gIsi1, tyD, isTy, gIsX, kitA, gFld, bMul, bDiv, bMod, bPow, der, derP, VI.cellOf, Cell.d, atI, ixN, D.plain, D.plains, D.eqv, D.eqvs, mApp, mExt, mPopAt, mSet, bindT, VI.bindL, sizeLine_eq, T, nL, psL, runD, seqIt, zipD, fZip]
  have fin : ∀ d S, b_28 (run n) [some (.cell 1), some (.int many), none, none, none] (mkS a i j k r) = .ret d S → runD (K01.T.N 28).length (K01.T.rk 28) (body (run n) 28) [.cell 1, .int many] (mkS a i j k r) = .ok d S := fun d S h => by
    have e0 : (List.map some [VI.D.cell 1, VI.D.int many] ++ List.replicate ((K01.T.N 28).length - [VI.D.cell 1, VI.D.int many].length) none) = [some (.cell 1), some (.int many), none, none, none] := rfl
    unfold runD
    rw [e0]
    show (match b_28 (run n) _ _ with | .nx _ S' => _ | .ret d S' => _ | .ex j ds' S' => _ | .st => _) = _
    rw [h]
  by_cases hp : 0 < i'
  · refine ⟨i'.fmod many, a', i'.fdiv many, k', fin _ _ ?_, Int.fmod_nonneg_of_pos _ (by omega), Int.fmod_lt_of_pos _ (by omega), g1, Int.fdiv_nonneg g2 (by omega), g3, g4⟩
    have m1 : many ≠ 0 := by omega
    have m2 : many.natAbs < 1073741824 := by omega
    unfold b_28
    simp only [sSeq]
    rw [s1]
    dsimp only
    rw [e]
    dsimp only
    simp [mkS, sSeq, sNil, sAsg, sPar, sTgt, sExpr, sRet, sRetV, sIf, sFor, sCset, sSet, sM, bindS, bindR, opt, fin1, fin2, finN, consR, fVar, fCon, fNil, fTup, fLst, fDnew, fAnd, fOr, gNot, fIf, fCall, fCm, fCell, fExc, fExc0, fDisp1, fItP, fRng, fYes, gAdd, gCat, gII, VI.gSub, gMul, gFdv, gMod, gPow, gLt, gLe, gGt, gGe, gEq, gIn, gIx, gLen, gList, gTuple, gMax2, gMin2, gBools, boolsD, gAbs, gInt1, gIsN, gIsi1, tyD, isTy, gIsX, kitA, gFld, bMul, bDiv, bMod, bPow, der, derP, VI.cellOf, Cell.d, atI, ixN, D.plain, D.plains, D.eqv, D.eqvs, mApp, mExt, mPopAt, mSet, bindT, VI.bindL, sizeLine_eq, T, nL, psL, runD, seqIt, zipD, fZip, hp, m1, m2]
  · have hz : i' = 0 := by omega
    subst hz
    have q1 : (k' + 7907 * (j + 1) + 104723).natAbs < 18446744073709551616 := by omega
    have q2 : 0 ≤ ((k' + 7907 * (j + 1) + 104723) ^ 5).fmod 2147483629 := Int.fmod_nonneg_of_pos _ (by omega)
    have q3 : ((k' + 7907 * (j + 1) + 104723) ^ 5).fmod 2147483629 < 2147483629 := Int.fmod_lt_of_pos _ (by omega)
    generalize hm : ((k' + 7907 * (j + 1) + 104723) ^ 5).fmod 2147483629 = mx at q2 q3
    have q4 : (mx * 48271 + 30011 * (j + 1) + 31).natAbs < 18446744073709551616 := by omega
    have m1 : many ≠ 0 := by omega
    refine ⟨(((mx * 48271 + 30011 * (j + 1) + 31) ^ 3).fmod 1000000007).fmod many, a', 0, k', fin _ _ ?_, Int.fmod_nonneg_of_pos _ (by omega), Int.fmod_lt_of_pos _ (by omega), g1, Int.le_refl _, g3, g4⟩
    unfold b_28
    simp only [sSeq]
    rw [s1]
    dsimp only
    rw [e]
    dsimp only
    simp [mkS, sSeq, sNil, sAsg, sPar, sTgt, sExpr, sRet, sRetV, sIf, sFor, sCset, sSet, sM, bindS, bindR, opt, fin1, fin2, finN, consR, fVar, fCon, fNil, fTup, fLst, fDnew, fAnd, fOr, gNot, fIf, fCall, fCm, fCell, fExc, fExc0, fDisp1, fItP, fRng, fYes, gAdd, gCat, gII, VI.gSub, gMul, gFdv, gMod, gPow, gLt, gLe, gGt, gGe, gEq, gIn, gIx, gLen, gList, gTuple, gMax2, gMin2, gBools, boolsD, gAbs, gInt1, gIsN, gIsi1, tyD, isTy, gIsX, kitA, gFld, bMul, bDiv, bMod, bPow, der, derP, VI.cellOf, Cell.d, atI, ixN, D.plain, D.plains, D.eqv, D.eqvs, mApp, mExt, mPopAt, mSet, bindT, VI.bindL, sizeLine_eq, T, nL, psL, runD, seqIt, zipD, fZip, q1, q4, m1, hm]
/-- the state stands in cells 0 and 1, at most b draws behind it; r: the other cells -/
def St (b : Nat) (S r : Store) : Prop := ∃ a i j k, S = mkS a i j k r ∧ a.length ≤ 63 ∧ 0 ≤ i ∧ 0 ≤ j ∧ j ≤ b ∧ 0 ≤ k ∧ k < 2147483647
theorem St.tl {b : Nat} {S r : Store} (h : St b S r) : Tl S r := by
  obtain ⟨a, i, j, k, rfl, _⟩ := h
  exact ⟨_, _, rfl⟩
theorem St.app {b : Nat} {S r : Store} (h : St b S r) (r' : Store) : St b (S ++ r') (r ++ r') := by
  obtain ⟨a, i, j, k, rfl, h⟩ := h
  exact ⟨a, i, j, k, rfl, h⟩
theorem St.le {b b' : Nat} {S r : Store} (h : St b S r) (l : b ≤ b') : St b' S r := by
  obtain ⟨a, i, j, k, rfl, h1, h2, h3, h4, h5⟩ := h
  exact ⟨a, i, j, k, rfl, h1, h2, h3, by omega, h5⟩
theorem st_start (n : Nat) (ns : List Int) (h : ns.length ≤ 63) : ∃ S, run (n + 1) 27 [.scr ns] [] = .ok (.cell 1) S ∧ St 0 S [] :=
  ⟨_, start_eq n ns, ns, 0, 0, 29, rfl, h, by omega, by omega, by omega, by omega, by omega⟩
theorem pick (n : Nat) {b : Nat} {S r : Store} (many : Int) (h1 : 1 ≤ many) (h2 : many < 1000000) (hb : b < 900000) (h : St b S r) :
    ∃ (d : Nat) (S' : Store), run (n + 1) 28 [.cell 1, .int many] S = .ok (.int (d : Nat)) S' ∧ St (b + 1) S' r ∧ (d : Int) < many := by
  obtain ⟨a, i, j, k, rfl, g1, g2, g3, g4, g5, g6⟩ := h
  obtain ⟨d, a', i', k', e, e1, e2, e3, e4, e5, e6⟩ := pick_ok n many h1 h2 a i j k r g1 g2 g3 (by omega) g5 g6
  obtain ⟨d, rfl⟩ := Int.eq_ofNat_of_zero_le e1
  exact ⟨d, _, e, ⟨a', i', j + 1, k', rfl, by omega, e4, by omega, by omega, e5, e6⟩, e2⟩
theorem one (n : Nat) {b : Nat} {S r : Store} {d : VI.D} {xs : List VI.D} (hd : Sq2 r d xs) (h1 : xs ≠ []) (h2 : xs.length < 1000000) (hb : b < 900000) (h : St b S r) :
    ∃ (x : VI.D) (S' : Store), run (n + 2) 29 [.cell 1, d] S = .ok x S' ∧ St (b + 1) S' r ∧ x ∈ xs := by
  have hp : 0 < xs.length := List.length_pos_iff.mpr h1
  obtain ⟨k, S', e, g, l⟩ := pick n (xs.length : Nat) (by omega) (by omega) hb h
  have l' : k < xs.length := by omega
  refine ⟨xs[k], S', ?_, g, List.getElem_mem l'⟩
  have ix := (hd.sq g.tl).ix (k : Nat)
  rw [ixn (List.getElem?_eq_getElem l')] at ix
  rw [r_29]
  simp [b_29, (hd.sq h.tl).len, e, ix]
end K01
end

section
set_option Elab.async false
set_option linter.all false
set_option autoImplicit false
set_option maxRecDepth 100000
set_option maxHeartbeats 0
namespace K01
open PySem PySem.Spec L2 VI
/-! formulas: what the program's defs tell -/
section
variable {S r : Store}
theorem is_list_sq (n : Nat) {d : VI.D} {xs : List VI.D} (h : Sq S d xs) : run (n + 1) 2 [d] S = .ok (.bl true) S := by
  rw [r_2]; simp [b_2, h.isi2]
theorem is_row_sq (n : Nat) {d : VI.D} {xs : List VI.D} (h : Sq S d xs) (k : Int) : run (n + 2) 3 [d, .int k] S = .ok (.bl (decide ((xs.length : Int) = k))) S := by
  rw [r_3]; simp [b_3, is_list_sq n h, h.len]
theorem is_text_str (n : Nat) (x : Str) : run (n + 1) 4 [.str x] S = .ok (.bl true) S := by
  rw [r_4]; simp [b_4, gIsi1, tyD, isTy]
theorem letters_lc (rn : Nat → List VI.D → Store → Res) (w : Str) (x y : Option VI.D) : lcD (.one 1) fYes (ce_5_0 rn) [x, y] (signs w) S = .ok (w.cps.toList.map fun c => .bl (lowB c)) S :=
  lc_pure _ _ _ fun c _ => ⟨[x, some (.str ⟨#[c]⟩)], rfl, by simp [ce_5_0, in_abc]⟩
theorem is_letters_ok (n : Nat) (w : Str) (hw : w.length ≤ 1000) : run (n + 2) 5 [.str w] S = .ok (.bl (letB w)) S := by
  have h1 : w.length ≤ sizeLine := by rw [sizeLine_eq]; omega
  have h2 : (signs w).length ≤ 16777216 := by rw [signs_len]; omega
  have e1 := letters_lc (S := S) (run (n + 1)) w (some (.str w)) none
  have e2 : gBools (fun bs => VI.D.bl (bs.all id)) S [.lst (w.cps.toList.map fun c => .bl (lowB c))] = some (.bl (allLow w)) := by
    rw [gBools_lst (bools_map2 _ _), List.all_map]; rfl
  have e3 : gLen S [.str w] = some (.int (w.length : Nat)) := by simp [gLen, h1]
  rw [r_5]
  by_cases h : 0 < w.length
  · have hz : (0 : Int) < (w.length : Nat) := by omega
    simp [b_5, is_text_str n, e3, gGt, gII, letB, h, hz, h2, e1, e2]
  · have hz : ¬ (0 : Int) < (w.length : Nat) := by omega
    simp [b_5, is_text_str n, e3, gGt, gII, letB, h, hz]
theorem is_word_ok (n : Nat) (w : Str) (hw : w.length ≤ 1000) : run (n + 3) 6 [.str w] S = .ok (.bl (wdB w)) S := by
  have h1 : w.length ≤ sizeLine := by rw [sizeLine_eq]; omega
  have e3 : gLen S [.str w] = some (.int (w.length : Nat)) := by simp [gLen, h1]
  have e1 := is_letters_ok (S := S) n w hw
  have hl : decide ((w.length : Int) ≤ 8) = decide (w.length ≤ 8) := by
    by_cases h : w.length ≤ 8
    · rw [decide_eq_true h, decide_eq_true (by omega)]
    · rw [decide_eq_false h, decide_eq_false (by omega)]
  rw [r_6]
  cases hb : letB w with
  | true => rw [hb] at e1; simp [b_6, e1, e3, wdB, hb, gLe, gII, hl]
  | false => rw [hb] at e1; simp [b_6, e1, wdB, hb]
theorem is_atom_fo (T : Tl S r) (n : Nat) {d : VI.D} {φ : Fm} (h : Fo r d φ) : run (n + 1) 7 [d] S = .ok (.bl φ.isAt) S := by
  rw [r_7]
  cases h with
  | «at» h => simp [b_7, (h.sq T).ix, Fm.isAt]
  | nd h _ _ => simp [b_7, (h.sq T).ix, Fm.isAt]
theorem as_formula_fo (T : Tl S r) {d : VI.D} {φ : Fm} (h : Fo r d φ) : ∀ m, φ.dep + 2 ≤ m → run m 9 [d] S = .ok φ.d S := by
  induction h with
  | «at» h =>
    intro m hm
    obtain ⟨n, rfl⟩ : ∃ n, m = n + 2 := Nat.exists_eq_add_of_le' (by simp [Fm.dep] at hm; omega)
    have e := is_atom_fo T n (.at h)
    rw [r_9]
    try simp only [Fm.dep]
    simp [b_9, e, Fm.isAt, (h.sq T).ix, Fm.d]
  | nd h h1 h2 ih1 ih2 =>
    rename_i d a b k φ ψ
    intro m hm
    obtain ⟨n, rfl⟩ : ∃ n, m = n + 2 := Nat.exists_eq_add_of_le' (by omega)
    simp only [Fm.dep] at hm
    have e := is_atom_fo T n (.nd h h1 h2)
    have e1 := ih1 (n + 1) (by omega)
    have e2 := ih2 (n + 1) (by omega)
    rw [r_9]
    simp [b_9, e, Fm.isAt, (h.sq T).ix, e1, e2, Fm.d]
theorem wd_len {w : Str} (h : wdB w = true) : w.length ≤ 8 := by
  rw [wdB, Bool.and_eq_true, decide_eq_true_eq] at h; exact h.2
theorem is_formula_fo (T : Tl S r) {d : VI.D} {φ : Fm} (h : Fo r d φ) (ok : φ.ok) : ∀ m, φ.dep + 5 ≤ m → run m 8 [d] S = .ok (.bl true) S := by
  induction h with
  | «at» h =>
    rename_i w
    intro m hm
    obtain ⟨n, rfl⟩ : ∃ n, m = n + 5 := Nat.exists_eq_add_of_le' (by simp [Fm.dep] at hm; omega)
    have h' := h.sq T
    have e := is_row_sq (n + 2) h' 2
    have e1 := is_word_ok (S := S) (n + 1) w (by have := wd_len ok; omega)
    have ok : wdB w = true := ok
    rw [r_8]
    simp [Fm.dep] at e e1 ⊢
    simp [b_8, e, h'.ix, is_text_str, e1, ok]
  | nd h h1 h2 ih1 ih2 =>
    rename_i d a b k φ ψ
    intro m hm
    obtain ⟨n, rfl⟩ : ∃ n, m = n + 3 := Nat.exists_eq_add_of_le' (by omega)
    simp only [Fm.dep] at hm
    have h' := h.sq T
    have e := is_row_sq n h' 2
    have e0 := is_row_sq n h' 3
    have e1 := ih1 ok.1 (n + 2) (by omega)
    have e2 := ih2 ok.2 (n + 2) (by omega)
    rw [r_8]
    simp at e e0
    simp [b_8, e, e0, h'.ix, is_text_str, e1, e2]
theorem need_formula_fo (T : Tl S r) {d : VI.D} {φ : Fm} (h : Fo r d φ) (ok : φ.ok) (m : Nat) (hm : φ.dep + 6 ≤ m) : run m 10 [d] S = .ok .non S := by
  obtain ⟨n, rfl⟩ : ∃ n, m = n + 1 := Nat.exists_eq_add_of_le' (by omega)
  have e := is_formula_fo T h ok n (by omega)
  rw [r_10]
  simp [b_10, e]
@[simp] theorem tab_sg (S : Store) (s : Bool) : gTab tab_TURNS S (.str (sgS s)) = some (.str (sgS (!s))) := by
  have : tab_TURNS.lookup (sgS s) = some (sgS (!s)) := by cases s <;> decide +kernel
  simp [gTab, this]
@[simp] theorem tab_kd (S : Store) (s : Bool) : gTab tab_TURNS S (.str (kdS s)) = some (.str (kdS (!s))) := by
  have : tab_TURNS.lookup (kdS s) = some (kdS (!s)) := by cases s <;> decide +kernel
  simp [gTab, this]
theorem turned_of_fo (T : Tl S r) {d : VI.D} {φ : Fm} (h : Fo r d φ) : ∀ m, φ.dep + 2 ≤ m → run m 11 [d] S = .ok φ.tn.d S := by
  induction h with
  | «at» h =>
    intro m hm
    obtain ⟨n, rfl⟩ : ∃ n, m = n + 2 := Nat.exists_eq_add_of_le' (by simp [Fm.dep] at hm; omega)
    have e := is_atom_fo T n (.at h)
    rw [r_11]
    try simp only [Fm.dep]
    simp [b_11, e, Fm.isAt, (h.sq T).ix, Fm.d, Fm.tn]
  | nd h h1 h2 ih1 ih2 =>
    rename_i d a b k φ ψ
    intro m hm
    obtain ⟨n, rfl⟩ : ∃ n, m = n + 2 := Nat.exists_eq_add_of_le' (by omega)
    simp only [Fm.dep] at hm
    have e := is_atom_fo T n (.nd h h1 h2)
    have e1 := ih1 (n + 1) (by omega)
    have e2 := ih2 (n + 1) (by omega)
    rw [r_11]
    simp [b_11, e, Fm.isAt, (h.sq T).ix, e1, e2, Fm.d, Fm.tn]
theorem turned_fo (T : Tl S r) {d : VI.D} {φ : Fm} (h : Fo r d φ) (ok : φ.ok) (m : Nat) (hm : φ.dep + 7 ≤ m) : run m 12 [d] S = .ok φ.tn.d S := by
  obtain ⟨n, rfl⟩ : ∃ n, m = n + 1 := Nat.exists_eq_add_of_le' (by omega)
  have e := need_formula_fo T h ok n (by omega)
  have e2 := turned_of_fo T h n (by omega)
  rw [r_12]
  simp [b_12, e, e2]
theorem depth_in_fo (T : Tl S r) {d : VI.D} {φ : Fm} (h : Fo r d φ) : ∀ m, φ.dep + 2 ≤ m → run m 16 [d] S = .ok (.int (φ.dep : Nat)) S := by
  induction h with
  | «at» h =>
    intro m hm
    obtain ⟨n, rfl⟩ : ∃ n, m = n + 2 := Nat.exists_eq_add_of_le' (by simp [Fm.dep] at hm; omega)
    have e := is_atom_fo T n (.at h)
    rw [r_16]
    try simp only [Fm.dep]
    simp [b_16, e, Fm.isAt]
  | nd h h1 h2 ih1 ih2 =>
    rename_i d a b k φ ψ
    intro m hm
    obtain ⟨n, rfl⟩ : ∃ n, m = n + 2 := Nat.exists_eq_add_of_le' (by omega)
    simp only [Fm.dep] at hm
    have e := is_atom_fo T n (.nd h h1 h2)
    have e1 := ih1 (n + 1) (by omega)
    have e2 := ih2 (n + 1) (by omega)
    have e3 : (1 : Int) + (if ((ψ.dep : Nat) : Int) > (φ.dep : Nat) then ((ψ.dep : Nat) : Int) else (φ.dep : Nat)) = ((1 + max φ.dep ψ.dep : Nat) : Int) := by split <;> omega
    rw [r_16]
    simp only [Fm.dep]
    rw [← e3]
    simp [b_16, e, Fm.isAt, (h.sq T).ix, e1, e2, gMax2]
theorem depth_of_fo (T : Tl S r) {d : VI.D} {φ : Fm} (h : Fo r d φ) (ok : φ.ok) (m : Nat) (hm : φ.dep + 7 ≤ m) : run m 17 [d] S = .ok (.int (φ.dep : Nat)) S := by
  obtain ⟨n, rfl⟩ : ∃ n, m = n + 1 := Nat.exists_eq_add_of_le' (by omega)
  have e := need_formula_fo T h ok n (by omega)
  have e2 := depth_in_fo T h n (by omega)
  rw [r_17]
  simp [b_17, e, e2]
end
end K01
end

section
set_option Elab.async false
set_option linter.all false
set_option autoImplicit false
set_option maxRecDepth 100000
set_option maxHeartbeats 0
namespace K01
open PySem PySem.Spec L2 VI
section
variable {S r : Store}
/-! lists of atoms, told in cells -/
theorem atoms_in_fo {d : VI.D} {φ : Fm} (h : Fo r d φ) (hz : φ.sz ≤ 1000) : ∀ m, φ.dep + 2 ≤ m → ∀ {S r' : Store}, Tl S (r ++ r') → ∃ n c, run m 13 [d] S = .ok (.cell c) (S ++ n) ∧ derR (r ++ r' ++ n) (.cell c) = .lst (φ.ats.map atD) := by
  induction h with
  | «at» h =>
    rename_i d s w
    intro m hm S r' T
    obtain ⟨n, rfl⟩ : ∃ n, m = n + 2 := Nat.exists_eq_add_of_le' (by simp [Fm.dep] at hm; omega)
    have e := is_atom_fo T n ((Fo.at h).app r')
    refine ⟨[.lst [atD (s, w)]], S.length, ?_, ?_⟩
    · rw [r_13]
      simp [b_13, e, Fm.isAt, ((h.app r').sq T).ix, atD]
    · rw [T.len]
      simp [derR, Fm.ats]
  | nd h h1 h2 ih1 ih2 =>
    rename_i d a b k φ ψ
    intro m hm S r' T
    obtain ⟨n, rfl⟩ : ∃ n, m = n + 2 := Nat.exists_eq_add_of_le' (by omega)
    simp only [Fm.dep] at hm
    simp only [Fm.sz] at hz
    have e := is_atom_fo T n ((Fo.nd h h1 h2).app r')
    obtain ⟨n1, c1, e1, q1⟩ := ih1 (by omega) (n + 1) (by omega) T
    have T1 : Tl (S ++ n1) (r ++ (r' ++ n1)) := by rw [← List.append_assoc]; exact T.app n1
    obtain ⟨n2, c2, e2, q2⟩ := ih2 (by omega) (n + 1) (by omega) T1
    have T2 : Tl (S ++ n1 ++ n2) (r ++ r' ++ n1 ++ n2) := (T.app n1).app n2
    have d1 : der (S ++ n1 ++ n2) (.cell c1) = .lst (φ.ats.map atD) := derR_der T2 (derR_app n2 q1 (by simp)) (by simp)
    have d2 : der (S ++ n1 ++ n2) (.cell c2) = .lst (ψ.ats.map atD) := derR_der T2 (by simpa [List.append_assoc] using q2) (by simp)
    have hl : (φ.ats.map atD).length + (ψ.ats.map atD).length ≤ 16777216 := by simp [Fm.ats_len]; omega
    have ix := ((h.app (r' ++ n1)).sq T1).ix
    have ix0 := ((h.app r').sq T).ix
    refine ⟨n1 ++ n2 ++ [.lst ((φ.ats.map atD) ++ (ψ.ats.map atD))], (S ++ n1 ++ n2).length, ?_, ?_⟩
    · rw [r_13]
      simp [b_13, e, Fm.isAt, ix0, e1, ix, e2]
      simp only [List.append_assoc] at d1 d2
      rw [cat_of d1 d2 (by simpa using hl)]
      simp [List.append_assoc]
    · have := derR_new T2 (.lst ((φ.ats.map atD) ++ (ψ.ats.map atD))) []
      simpa [Fm.ats, List.append_assoc] using this
theorem atoms_of_fo (T : Tl S r) {d : VI.D} {φ : Fm} (h : Fo r d φ) (ok : φ.ok) (hz : φ.sz ≤ 1000) (m : Nat) (hm : φ.dep + 7 ≤ m) : ∃ n c, run m 14 [d] S = .ok (.cell c) (S ++ n) ∧ derR (r ++ n) (.cell c) = .lst (φ.ats.map atD) := by
  obtain ⟨k, rfl⟩ : ∃ n, m = n + 1 := Nat.exists_eq_add_of_le' (by omega)
  have e := need_formula_fo T h ok k (by omega)
  obtain ⟨n, c, e2, q⟩ := atoms_in_fo h hz k (by omega) (r' := []) (by rwa [List.append_nil])
  rw [List.append_nil] at q
  refine ⟨n, c, ?_, q⟩
  rw [r_14]
  simp [b_14, e, e2]
theorem size_of_fo (T : Tl S r) {d : VI.D} {φ : Fm} (h : Fo r d φ) (ok : φ.ok) (hz : φ.sz ≤ 1000) (m : Nat) (hm : φ.dep + 7 ≤ m) : ∃ n, run m 15 [d] S = .ok (.int (φ.sz : Nat)) (S ++ n) := by
  obtain ⟨k, rfl⟩ : ∃ n, m = n + 1 := Nat.exists_eq_add_of_le' (by omega)
  have e := need_formula_fo T h ok k (by omega)
  obtain ⟨n, c, e2, q⟩ := atoms_in_fo h hz k (by omega) (r' := []) (by rwa [List.append_nil])
  rw [List.append_nil] at q
  have d1 := derR_der (T.app n) q (by simp)
  have e3 : gLen (S ++ n) [.cell c] = some (.int (φ.sz : Nat)) := by simp [gLen, d1, Fm.ats_len]
  refine ⟨n, ?_⟩
  rw [r_15]
  simp [b_15, e, e2, e3]
theorem words_dc (rn : Nat → List VI.D → Store → Res) (x y z : Option VI.D) : ∀ (as : List (Bool × Str)) (acc : List Str), dcD (.tup [1, 2]) (ce_18_0 rn) (ce_18_1 rn) [x, y, z] (as.map atD) (acc.map .str) (acc.map fun _ => .bl true) S =
    some (((as.map Prod.snd).foldl addU acc).map .str, ((as.map Prod.snd).foldl addU acc).map (fun _ => .bl true), S)
  | [], acc => rfl
  | a :: as, acc => by
    rw [List.map_cons, dcD]
    simp only [atD, bindT_tup, bindL_cons, bindL_nil]
    simp only [ce_18_0, ce_18_1, e_var, e_con]
    simp [isKey]
    rw [dput_str]
    exact words_dc rn x y z as (addU acc a.2)
theorem words_of_fo (T : Tl S r) {d : VI.D} {φ : Fm} (h : Fo r d φ) (ok : φ.ok) (hz : φ.sz ≤ 1000) (m : Nat) (hm : φ.dep + 7 ≤ m) : ∃ n c, run m 18 [d] S = .ok (.cell c) (S ++ n) ∧ derR (r ++ n) (.cell c) = .lst ((unl (φ.ats.map Prod.snd)).map .str) := by
  obtain ⟨k, rfl⟩ : ∃ n, m = n + 1 := Nat.exists_eq_add_of_le' (by omega)
  have e := need_formula_fo T h ok k (by omega)
  obtain ⟨n, c, e2, q⟩ := atoms_in_fo h hz k (by omega) (r' := []) (by rwa [List.append_nil])
  rw [List.append_nil] at q
  have d1 := derR_der (T.app n) q (by simp)
  have hl : (φ.ats.map atD).length < sizeLine := by rw [sizeLine_eq]; simp [Fm.ats_len]; omega
  have e3 := words_dc (S := S ++ n) (run k) (some d) none none φ.ats []
  refine ⟨n ++ [.lst ((unl (φ.ats.map Prod.snd)).map .str)], (S ++ n).length, ?_, ?_⟩
  · rw [r_18]
    simp only [List.map_nil] at e3
    simp only [b_18, s_seq, s_expr, e_call, e_cons, e_var, e_nil, List.getElem?_cons_zero, e, s_ret, e_cell, e_finN, fDc, e_itP, e2, d1, seqIt_lst, if_pos hl, e3, gList, der_dct, e_opt, cellOf_lst, List.append_assoc]
    rfl
  · rw [(T.app n).len]
    simp [derR]
/-! places, told in cells of cells -/
def PlR (r : Store) (d : VI.D) (p : List Bool) : Prop := (∃ c, d = .cell c) ∧ derR r d = .lst (p.map stD)
theorem places_lc (b : Bool) (f : Dl → Store → Res) (hf : ∀ (x d : VI.D) (S : Store) (p : List Bool), der S d = .lst (p.map stD) → p.length ≤ 1000 → f [some x, some d] S = .ok (.cell S.length) (S ++ [.lst (stD b :: p.map stD)])) (x : VI.D) (y : Option VI.D) {r : Store} : ∀ {ds : List VI.D} {ps : List (List Bool)}, All2 (PlR r) ds ps → (∀ p ∈ ps, p.length ≤ 1000) → ∀ {S r' : Store}, Tl S (r ++ r') →
    ∃ n ds', lcD (.one 1) fYes f [some x, y] ds S = .ok ds' (S ++ n) ∧ All2 (PlR (r ++ r' ++ n)) ds' (ps.map (b :: ·))
  | _, _, .nil, _, S, r', T => ⟨[], [], by simp, .nil⟩
  | _, _, .cons (a := d) (b := p) (as := ds) (bs := ps) h t, hl, S, r', T => by
    have h0 := derR_der T (derR_app r' h.2 (by simp)) (by simp)
    have e := hf x d S p h0 (hl p List.mem_cons_self)
    have T1 : Tl (S ++ [.lst (stD b :: p.map stD)]) (r ++ (r' ++ [.lst (stD b :: p.map stD)])) := by rw [← List.append_assoc]; exact T.app _
    obtain ⟨n, ds', e2, q⟩ := places_lc b f hf x y t (fun q hq => hl q (List.mem_cons_of_mem _ hq)) T1
    refine ⟨.lst (stD b :: p.map stD) :: n, .cell S.length :: ds', ?_, ?_⟩
    · rw [lcD_cons]
      simp [e, e2]
    · refine .cons ⟨⟨_, rfl⟩, ?_⟩ ?_
      · rw [T.len]
        simp [derR]
      · simpa [List.append_assoc] using q
theorem ce0_ok (rn : Nat → List VI.D → Store → Res) (x d : VI.D) (S : Store) (p : List Bool) (h : der S d = .lst (p.map stD)) (hl : p.length ≤ 1000) : ce_19_0 rn [some x, some d] S = .ok (.cell S.length) (S ++ [.lst (stD false :: p.map stD)]) := by
  have e : gCat S (.lst [.int 0]) d = some (.lst (stD false :: p.map stD)) := by rw [cat_of (xs := [.int 0]) rfl h (by simp; omega)]; rfl
  simp [ce_19_0, e]
theorem ce1_ok (rn : Nat → List VI.D → Store → Res) (x d : VI.D) (S : Store) (p : List Bool) (h : der S d = .lst (p.map stD)) (hl : p.length ≤ 1000) : ce_19_1 rn [some x, some d] S = .ok (.cell S.length) (S ++ [.lst (stD true :: p.map stD)]) := by
  have e : gCat S (.lst [.int 1]) d = some (.lst (stD true :: p.map stD)) := by rw [cat_of (xs := [.int 1]) rfl h (by simp; omega)]; rfl
  simp [ce_19_1, e]
theorem PlR.app {r : Store} (r' : Store) {d : VI.D} {p : List Bool} (h : PlR r d p) : PlR (r ++ r') d p := ⟨h.1, derR_app r' h.2 (by simp)⟩
theorem all_places_fo {d : VI.D} {φ : Fm} (h : Fo r d φ) (hz : φ.sz ≤ 500) : ∀ m, φ.dep + 2 ≤ m → ∀ {S r' : Store}, Tl S (r ++ r') → ∃ n c ds, run m 19 [d] S = .ok (.cell c) (S ++ n) ∧ derR (r ++ r' ++ n) (.cell c) = .lst ds ∧ All2 (PlR (r ++ r' ++ n)) ds φ.pls := by
  induction h with
  | «at» h =>
    rename_i d s w
    intro m hm S r' T
    obtain ⟨n, rfl⟩ : ∃ n, m = n + 2 := Nat.exists_eq_add_of_le' (by simp [Fm.dep] at hm; omega)
    have e := is_atom_fo T n ((Fo.at h).app r')
    refine ⟨[.lst [], .lst [.cell S.length]], S.length + 1, [.cell S.length], ?_, ?_, ?_⟩
    · rw [r_19]
      simp [b_19, e, Fm.isAt]
    · have := derR_new (T.app [.lst []]) (.lst [.cell S.length]) []
      simpa [List.append_assoc] using this
    · refine .cons ⟨⟨_, rfl⟩, ?_⟩ .nil
      have := derR_new T (.lst []) [.lst [.cell S.length]]
      simpa [List.append_assoc] using this
  | nd h h1 h2 ih1 ih2 =>
    rename_i d a b k φ ψ
    intro m hm S r' T
    obtain ⟨n, rfl⟩ : ∃ n, m = n + 2 := Nat.exists_eq_add_of_le' (by omega)
    simp only [Fm.dep] at hm
    simp only [Fm.sz] at hz
    have e := is_atom_fo T n ((Fo.nd h h1 h2).app r')
    have T0 : Tl (S ++ [.lst []]) (r ++ (r' ++ [.lst []])) := by rw [← List.append_assoc]; exact T.app _
    obtain ⟨n1, c1, ds1, e1, q1, a1⟩ := ih1 (by omega) (n + 1) (by omega) T0
    have T1 : Tl (S ++ [.lst []] ++ n1) (r ++ (r' ++ [.lst []]) ++ n1) := T0.app n1
    have d1 := derR_der T1 q1 (by simp)
    have pl1 : ∀ p ∈ φ.pls, p.length ≤ 1000 := fun p hp => by have := φ.pls_le p hp; have := φ.dep_sz; omega
    have pl2 : ∀ p ∈ ψ.pls, p.length ≤ 1000 := fun p hp => by have := ψ.pls_le p hp; have := ψ.dep_sz; omega
    obtain ⟨n2, ds2, e2, a2⟩ := places_lc false _ (ce0_ok (run (n + 1))) d none a1 pl1 (r' := []) (by rwa [List.append_nil])
    rw [List.append_nil] at a2
    have T2 : Tl (S ++ [.lst []] ++ n1 ++ n2) (r ++ (r' ++ [.lst []] ++ n1 ++ n2)) := by
      have := T1.app n2
      simpa [List.append_assoc] using this
    obtain ⟨n3, c3, ds3, e3, q3, a3⟩ := ih2 (by omega) (n + 1) (by omega) T2
    have T3 := T2.app n3
    have d3 := derR_der T3 q3 (by simp)
    obtain ⟨n4, ds4, e4, a4⟩ := places_lc true _ (ce1_ok (run (n + 1))) d none a3 pl2 (r' := []) (by rwa [List.append_nil])
    rw [List.append_nil] at a4
    have ix0 := ((h.app (r' ++ [.lst []])).sq T0).ix
    have ix2 := ((h.app (r' ++ [.lst []] ++ n1 ++ n2)).sq T2).ix
    have l1 : ds1.length ≤ 16777216 := by rw [a1.len]; have := φ.pls_len; omega
    have l3 : ds3.length ≤ 16777216 := by rw [a3.len]; have := ψ.pls_len; omega
    have l2 : ds2.length ≤ 1000 := by rw [a2.len, List.length_map]; have := φ.pls_len; omega
    have l4 : ds4.length ≤ 1000 := by rw [a4.len, List.length_map]; have := ψ.pls_len; omega
    refine ⟨[Cell.lst []] ++ n1 ++ n2 ++ n3 ++ n4 ++ [.lst (.cell S.length :: (ds2 ++ ds4))], (S ++ ([Cell.lst []] ++ n1 ++ n2 ++ n3 ++ n4)).length, .cell S.length :: (ds2 ++ ds4), ?_, ?_, ?_⟩
    · rw [r_19]
      simp only [List.append_assoc, List.cons_append, List.nil_append] at e1 e2 e3 e4 ix0 ix2 d1 d3
      have l5 : 1 + ds2.length ≤ 16777216 := by omega
      have l6 : ds2.length + 1 + ds4.length ≤ 16777216 := by omega
      simp [b_19, e, Fm.isAt, ix0, e1, d1, l1, e2, ix2, e3, d3, l3, e4, l5, l6]
    · have := derR_new (T.app ([.lst []] ++ n1 ++ n2 ++ n3 ++ n4)) (.lst (.cell S.length :: (ds2 ++ ds4))) []
      simpa [List.append_assoc] using this
    · simp only [Fm.pls]
      refine .cons ⟨⟨_, rfl⟩, ?_⟩ ?_
      · have := derR_new T (.lst []) (n1 ++ n2 ++ n3 ++ n4 ++ [.lst (.cell S.length :: (ds2 ++ ds4))])
        simpa [List.append_assoc] using this
      · refine All2.app ?_ ?_
        · refine All2.imp (fun d p z => ?_) a2
          have := PlR.app (n3 ++ n4 ++ [.lst (.cell S.length :: (ds2 ++ ds4))]) z
          simpa [List.append_assoc] using this
        · refine All2.imp (fun d p z => ?_) a4
          have := PlR.app ([.lst (.cell S.length :: (ds2 ++ ds4))]) z
          simpa [List.append_assoc] using this
theorem places_of_fo (T : Tl S r) {d : VI.D} {φ : Fm} (h : Fo r d φ) (ok : φ.ok) (hz : φ.sz ≤ 500) (m : Nat) (hm : φ.dep + 7 ≤ m) : ∃ n c ds, run m 20 [d] S = .ok (.cell c) (S ++ n) ∧ derR (r ++ n) (.cell c) = .lst ds ∧ All2 (PlR (r ++ n)) ds φ.pls := by
  obtain ⟨k, rfl⟩ : ∃ n, m = n + 1 := Nat.exists_eq_add_of_le' (by omega)
  have e := need_formula_fo T h ok k (by omega)
  obtain ⟨n, c, ds, e2, q, a⟩ := all_places_fo h hz k (by omega) (r' := []) (by rwa [List.append_nil])
  rw [List.append_nil] at q a
  refine ⟨n, c, ds, ?_, q, a⟩
  rw [r_20]
  simp [b_20, e, e2]
end
end K01
end

section
set_option Elab.async false
set_option linter.all false
set_option autoImplicit false
set_option maxRecDepth 100000
set_option maxHeartbeats 0
namespace K01
open PySem PySem.Spec L2 VI
section
variable {S r : Store}
theorem is_number_int (n : Nat) (z : Int) : run (n + 2) 1 [.int z] S = .ok (.bl (decide (0 ≤ z))) S := by
  have e : run (n + 1) 0 [.int z] S = .ok (.bl true) S := by
    rw [r_0]; simp [b_0, gIsi1, tyD, isTy]
  rw [r_1]
  simp [b_1, e, gGe, gII]
theorem is_number_bl (n : Nat) (z : Bool) : run (n + 2) 1 [.bl z] S = .ok (.bl false) S := by
  have e : run (n + 1) 0 [.bl z] S = .ok (.bl false) S := by
    rw [r_0]; simp [b_0, gIsi1, tyD, isTy]
  rw [r_1]
  simp [b_1, e]
theorem is_number_str (n : Nat) (z : Str) : run (n + 2) 1 [.str z] S = .ok (.bl false) S := by
  have e : run (n + 1) 0 [.str z] S = .ok (.bl false) S := by
    rw [r_0]; simp [b_0, gIsi1, tyD, isTy]
  rw [r_1]
  simp [b_1, e]
theorem place_loop (T : Tl S r) (n : Nat) : ∀ (zs : List Int) {d : VI.D} {φ : Fm}, Fo r d φ → ∀ (t : VI.D) (x : Option VI.D), ∃ d' x', forD (.one 2) (fb_21_0 (run (n + 2))) (zs.map .int) [some d, some t, x] S = if φ.isPl zs then .nx [some d', some t, x'] S else .ret (.bl false) S
  | [], d, φ, h, t, x => ⟨d, x, by simp [Fm.isPl]⟩
  | z :: zs, d, φ, h, t, x => by
    have ea := is_atom_fo T (n + 1) h
    have en := is_number_int (S := S) n z
    cases h with
    | «at» h =>
      refine ⟨d, x, ?_⟩
      rw [List.map_cons, forD_cons]
      simp [fb_21_0, ea, Fm.isAt, Fm.isPl]
    | nd h h1 h2 =>
      rename_i a b k φ ψ
      by_cases h0 : z = 0
      · subst h0
        obtain ⟨d', x', e⟩ := place_loop T n zs h1 t (some (.int 0))
        refine ⟨d', x', ?_⟩
        rw [List.map_cons, forD_step rfl (δ2 := [some a, some t, some (.int 0)]) (S2 := S) (by simp [fb_21_0, ea, Fm.isAt, en, (h.sq T).ix]), e]
        simp [Fm.isPl]
      · by_cases h1' : z = 1
        · subst h1'
          obtain ⟨d', x', e⟩ := place_loop T n zs h2 t (some (.int 1))
          refine ⟨d', x', ?_⟩
          rw [List.map_cons, forD_step rfl (δ2 := [some b, some t, some (.int 1)]) (S2 := S) (by simp [fb_21_0, ea, Fm.isAt, en, (h.sq T).ix]), e]
          simp [Fm.isPl]
        · refine ⟨d, x, ?_⟩
          rw [List.map_cons, forD_cons]
          by_cases hz : 0 ≤ z
          · have hg : 1 < z := by omega
            simp [fb_21_0, ea, Fm.isAt, en, hz, hg, Fm.isPl, h0, h1']
          · simp [fb_21_0, ea, Fm.isAt, en, hz, Fm.isPl, h0, h1']
theorem is_place_of_ints (T : Tl S r) (n : Nat) {d t : VI.D} {φ : Fm} (h : Fo r d φ) (zs : List Int) (ht : Sq2 r t (zs.map .int)) : run (n + 3) 21 [d, t] S = .ok (.bl (φ.isPl zs)) S := by
  obtain ⟨d', x', e⟩ := place_loop T n zs h t none
  have e1 := is_list_sq (n + 1) (ht.sq T)
  rw [r_21]
  cases hp : φ.isPl zs with
  | true =>
    rw [hp, if_pos rfl] at e
    simp [b_21, e1, (ht.sq T).it, e]
  | false =>
    rw [hp] at e
    simp at e
    simp [b_21, e1, (ht.sq T).it, e]
/-- no list -/
theorem is_place_of_no (n : Nat) (d t : VI.D) (h : gIsi1 [.list, .tuple] S t = some (.bl false)) : run (n + 2) 21 [d, t] S = .ok (.bl false) S := by
  have e : run (n + 1) 2 [t] S = .ok (.bl false) S := by rw [r_2]; simp [b_2, h]
  rw [r_21]
  simp [b_21, e]
theorem is_place_of_one (T : Tl S r) (n : Nat) {d x : VI.D} {φ : Fm} (h : Fo r d φ) (hx : run (n + 2) 1 [x] S = .ok (.bl false) S) : run (n + 3) 21 [d, .lst [x]] S = .ok (.bl false) S := by
  have e1 := is_list_sq (n + 1) (S := S) (sq_lst (xs := [x]))
  have ea := is_atom_fo T (n + 1) h
  rw [r_21]
  cases hh : φ.isAt with
  | true => rw [hh] at ea; simp [b_21, e1, forD_cons, fb_21_0, ea]
  | false => rw [hh] at ea; simp [b_21, e1, forD_cons, fb_21_0, ea, hx]
theorem at_loop (T : Tl S r) (rn : Nat → List VI.D → Store → Res) : ∀ (p : List Bool) {d : VI.D} {φ : Fm}, Fo r d φ → φ.has p = true → ∀ (t : VI.D) (x : Option VI.D), ∃ d' x', forD (.one 2) (fb_22_0 rn) (p.map stD) [some d, some t, x] S = .nx [some d', some t, x'] S ∧ Fo r d' (φ.sub p)
  | [], d, φ, h, _, t, x => ⟨d, x, rfl, by cases φ <;> exact h⟩
  | b :: p, d, φ, h, hp, t, x => by
    cases h with
    | «at» h => cases hp
    | nd h h1 h2 =>
      cases b with
      | true =>
        obtain ⟨d', x', e, f⟩ := at_loop T rn p h2 hp t (some (.int 1))
        refine ⟨d', x', ?_, f⟩
        rw [List.map_cons, forD_cons]
        simp [fb_22_0, stD, (h.sq T).ix]
        exact e
      | false =>
        obtain ⟨d', x', e, f⟩ := at_loop T rn p h1 hp t (some (.int 0))
        refine ⟨d', x', ?_, f⟩
        rw [List.map_cons, forD_cons]
        simp [fb_22_0, stD, (h.sq T).ix]
        exact e
theorem at_place_fo (T : Tl S r) (n : Nat) {d t : VI.D} {φ : Fm} (h : Fo r d φ) (p : List Bool) (hp : φ.has p = true) (ht : Sq2 r t (p.map stD)) : ∃ d', run (n + 1) 22 [d, t] S = .ok d' S ∧ Fo r d' (φ.sub p) := by
  obtain ⟨d', x', e, f⟩ := at_loop T (run n) p h hp t none
  refine ⟨d', ?_, f⟩
  rw [r_22]
  simp [b_22, (ht.sq T).it, e]
theorem need_place_ok (T : Tl S r) {d t : VI.D} {φ : Fm} (h : Fo r d φ) (ok : φ.ok) (p : List Bool) (hp : φ.has p = true) (ht : Sq2 r t (p.map stD)) (m : Nat) (hm : φ.dep + 7 ≤ m) : run m 23 [d, t] S = .ok .non S := by
  obtain ⟨k, rfl⟩ : ∃ n, m = n + 4 := Nat.exists_eq_add_of_le' (by omega)
  have e := need_formula_fo T h ok (k + 3) (by omega)
  have e2 := is_place_of_ints T k h (p.map fun b => if b then 1 else 0) (by rw [← plD_ints]; exact ht)
  rw [Fm.isPl_has, hp] at e2
  rw [r_23]
  simp [b_23, e, e2]
theorem need_place_no (T : Tl S r) {d t : VI.D} {φ : Fm} (h : Fo r d φ) (ok : φ.ok) (m : Nat) (hm : φ.dep + 7 ≤ m) (ht : ∀ k, run (k + 3) 21 [d, t] S = .ok (.bl false) S) : run m 23 [d, t] S = .ex 3 [t] S := by
  obtain ⟨k, rfl⟩ : ∃ n, m = n + 4 := Nat.exists_eq_add_of_le' (by omega)
  have e := need_formula_fo T h ok (k + 3) (by omega)
  have e2 := ht k
  rw [r_23]
  simp [b_23, e, e2]
theorem part_of_fo (T : Tl S r) {d t : VI.D} {φ : Fm} (h : Fo r d φ) (ok : φ.ok) (p : List Bool) (hp : φ.has p = true) (ht : Sq2 r t (p.map stD)) (m : Nat) (hm : φ.dep + 8 ≤ m) : run m 24 [d, t] S = .ok (φ.sub p).d S := by
  obtain ⟨k, rfl⟩ : ∃ n, m = n + 2 := Nat.exists_eq_add_of_le' (by omega)
  have e := need_place_ok T h ok p hp ht (k + 1) (by omega)
  obtain ⟨d', e2, f⟩ := at_place_fo T k h p hp ht
  have e3 := as_formula_fo T f (k + 1) (by have := φ.sub_dep p; omega)
  rw [r_24]
  simp [b_24, e, e2, e3]
theorem part_of_no (T : Tl S r) {d t : VI.D} {φ : Fm} (h : Fo r d φ) (ok : φ.ok) (m : Nat) (hm : φ.dep + 8 ≤ m) (ht : ∀ k, run (k + 3) 21 [d, t] S = .ok (.bl false) S) : run m 24 [d, t] S = .ex 3 [t] S := by
  obtain ⟨k, rfl⟩ : ∃ n, m = n + 1 := Nat.exists_eq_add_of_le' (by omega)
  have e := need_place_no T h ok k (by omega) ht
  rw [r_24]
  simp [b_24, e]
theorem with_part_fo (T : Tl S r) {d : VI.D} {φ : Fm} (h : Fo r d φ) {q : VI.D} {ψ : Fm} (hq : Fo r q ψ) : ∀ (p : List Bool), φ.has p = true → ∀ m, φ.dep + ψ.dep + 3 ≤ m → run m 25 [d, plD p, q] S = .ok (φ.put p ψ).d S := by
  induction h with
  | «at» h =>
    intro p hp m hm
    obtain ⟨k, rfl⟩ : ∃ n, m = n + 1 := Nat.exists_eq_add_of_le' (by omega)
    cases p with
    | nil =>
      have e := as_formula_fo T hq k (by omega)
      rw [r_25]
      simp [b_25, plD, e, Fm.put]
    | cons b p => cases hp
  | nd h h1 h2 ih1 ih2 =>
    rename_i d a b k φ ξ
    intro p hp m hm
    obtain ⟨k, rfl⟩ : ∃ n, m = n + 1 := Nat.exists_eq_add_of_le' (by omega)
    simp only [Fm.dep] at hm
    cases p with
    | nil =>
      have e := as_formula_fo T hq k (by omega)
      rw [r_25]
      simp [b_25, plD, e, Fm.put]
    | cons c p =>
      have hz : ¬ ((p.length : Int) + 1 = 0) := by omega
      cases c with
      | true =>
        have e := ih2 p hp k (by omega)
        have e1 := as_formula_fo T h1 k (by omega)
        have e2 := as_formula_fo T (fo_d r (ξ.put p ψ)) k (by have := ξ.put_dep ψ p; omega)
        rw [r_25]
        unfold plD at e
        simp [b_25, plD, stD, hz, (h.sq T).ix, gSlL, cut1]
        simp [e, mset1, e1, e2, Fm.put, Fm.d, (h.sq T).ix]
      | false =>
        have e := ih1 p hp k (by omega)
        have e1 := as_formula_fo T h2 k (by omega)
        have e2 := as_formula_fo T (fo_d r (φ.put p ψ)) k (by have := φ.put_dep ψ p; omega)
        rw [r_25]
        unfold plD at e
        simp [b_25, plD, stD, hz, (h.sq T).ix, gSlL, cut1]
        simp [e, mset0, e1, e2, Fm.put, Fm.d, (h.sq T).ix]
theorem put_at_fo (T : Tl S r) {d t q : VI.D} {φ ψ : Fm} (h : Fo r d φ) (ok : φ.ok) (hq : Fo r q ψ) (ok' : ψ.ok) (p : List Bool) (hp : φ.has p = true) (ht : Sq2 r t (p.map stD)) (m : Nat) (hm : φ.dep + ψ.dep + 8 ≤ m) : run m 26 [d, t, q] S = .ok (φ.put p ψ).d S := by
  obtain ⟨k, rfl⟩ : ∃ n, m = n + 1 := Nat.exists_eq_add_of_le' (by omega)
  have e := need_place_ok T h ok p hp ht k (by omega)
  have e1 := is_formula_fo T hq ok' k (by omega)
  have e2 := with_part_fo T h hq p hp k (by omega)
  have e3 : gList S [t] = some (plD p) := by rcases ht.sq T with h | h <;> simp [gList, h, plD]
  rw [r_26]
  simp [b_26, e, e1, e3, e2]
theorem put_at_no (T : Tl S r) {d t q : VI.D} {φ : Fm} (h : Fo r d φ) (ok : φ.ok) (m : Nat) (hm : φ.dep + 8 ≤ m) (ht : ∀ k, run (k + 3) 21 [d, t] S = .ok (.bl false) S) : run m 26 [d, t, q] S = .ex 3 [t] S := by
  obtain ⟨k, rfl⟩ : ∃ n, m = n + 1 := Nat.exists_eq_add_of_le' (by omega)
  have e := need_place_no T h ok k (by omega) ht
  rw [r_26]
  simp [b_26, e]
theorem put_at_no2 (T : Tl S r) {d t q : VI.D} {φ : Fm} (h : Fo r d φ) (ok : φ.ok) (p : List Bool) (hp : φ.has p = true) (ht : Sq2 r t (p.map stD)) (m : Nat) (hm : φ.dep + 8 ≤ m) (hq : ∀ k, run (k + 4) 8 [q] S = .ok (.bl false) S) : run m 26 [d, t, q] S = .ex 2 [q] S := by
  obtain ⟨k, rfl⟩ : ∃ n, m = n + 5 := Nat.exists_eq_add_of_le' (by omega)
  have e := need_place_ok T h ok p hp ht (k + 4) (by omega)
  have e1 := hq k
  rw [r_26]
  simp [b_26, e, e1]
end
end K01
end

section
set_option Elab.async false
set_option linter.all false
set_option autoImplicit false
set_option maxRecDepth 100000
set_option maxHeartbeats 0
namespace K01
open PySem PySem.Spec L2 VI
/-! the law's own helpers -/
section
variable {S r : Store}
theorem isi_of {d e : VI.D} (h : der S d = e) (ts : List Ty) : gIsi1 ts S d = gIsi1 ts S e := by
  subst h
  cases d with
  | cell n => simp only [gIsi1, tyD, der]; cases S[n]? with
    | none => rfl
    | some s => cases s <;> rfl
  | _ => rfl
@[simp] theorem isi_lst (xs : List VI.D) (ts : List Ty) : gIsi1 ts S (.lst xs) = some (.bl (ts.any (isTy (some .list)))) := rfl
@[simp] theorem isi_tup (xs : List VI.D) (ts : List Ty) : gIsi1 ts S (.tup xs) = some (.bl (ts.any (isTy (some .tuple)))) := rfl
@[simp] theorem isi_dct (t : Bool) (xs ys : List VI.D) (ts : List Ty) : gIsi1 ts S (.dct t xs ys) = some (.bl (ts.any (isTy (some .dict)))) := rfl
@[simp] theorem isi_int (x : Int) (ts : List Ty) : gIsi1 ts S (.int x) = some (.bl (ts.any (isTy (some .int)))) := rfl
@[simp] theorem isi_bl (x : Bool) (ts : List Ty) : gIsi1 ts S (.bl x) = some (.bl (ts.any (isTy (some .bool)))) := rfl
@[simp] theorem isi_str (x : Str) (ts : List Ty) : gIsi1 ts S (.str x) = some (.bl (ts.any (isTy (some .str)))) := rfl
@[simp] theorem isi_non (ts : List Ty) : gIsi1 ts S .non = some (.bl (ts.any (isTy none))) := rfl
/-! _law_copy -/
theorem copy_lc (rn : Nat → List VI.D → Store → Res) (x a b c : Option VI.D) : ∀ {xs ys : List VI.D}, All2 (fun d e => rn 32 [d] S = .ok e S) xs ys → lcD (.one 3) fYes (ce_32_0 rn) [x, a, b, c] xs S = .ok ys S
  | _, _, .nil => rfl
  | _, _, .cons h t => by
    have ih := copy_lc rn x a b c t
    rw [lcD_cons]
    simp [ce_32_0, h]
    simp only [ce_32_0] at ih
    rw [ih]
theorem copy_sm (T : Tl S r) : ∀ {n : Nat} {d e : VI.D}, Sm r n d e → ∀ m, n + 1 ≤ m → run m 32 [d] S = .ok e S := by
  have flat : ∀ {d : VI.D}, flatD d = true → ∀ k, run (k + 1) 32 [d] S = .ok d S := fun {d} h k => by
    rw [r_32]
    cases d <;> first | (cases h; done) | simp [b_32, isTy]
  intro n
  induction n with
  | zero =>
    intro d e h m hm
    obtain ⟨k, rfl⟩ : ∃ k, m = k + 1 := Nat.exists_eq_add_of_le' hm
    obtain ⟨rfl, h⟩ := h
    exact flat h k
  | succ n ih =>
    intro d e h m hm
    obtain ⟨k, rfl⟩ : ∃ k, m = k + 1 := Nat.exists_eq_add_of_le' (by omega)
    rcases h with ⟨rfl, h | h⟩ | ⟨xs, ys, h, hl, a⟩
    · exact flat h k
    · subst h
      rw [r_32]
      simp [b_32, isTy, sForE]
    · have hx : xs.length ≤ 16777216 := by rw [a.len]; omega
      have hc := copy_lc (run k) (some d) none none none (a.imp fun d e z => ih z k (by omega))
      rw [r_32]
      rcases h with ⟨h, rfl⟩ | ⟨h, rfl⟩
      · have hd := derR_der T h (by simp)
        simp [b_32, isi_of hd, isTy, hd, hx, hc]
      · have hd := derR_der T h (by simp)
        simp [b_32, isi_of hd, isTy, hd, hx, hc, gTuple]
/-! _law_same -/
theorem same_lc (rn : Nat → List VI.D → Store → Res) (f d k x y : Option VI.D) : ∀ {xs ys : List VI.D}, All2 (fun d e => rn 31 [d, e] S = .ok (.bl true) S) xs ys →
    lcD (.tup [3, 4]) fYes (ce_31_0 rn) [f, d, k, x, y] (List.zipWith (fun x y => VI.D.tup [x, y]) xs ys) S = .ok ((List.replicate xs.length true).map .bl) S
  | _, _, .nil => rfl
  | _, _, .cons h t => by
    have ih := same_lc rn f d k x y t
    rw [List.zipWith_cons_cons, lcD_cons]
    simp [ce_31_0, h]
    simp only [ce_31_0] at ih
    rw [ih]
    simp [List.replicate_succ]
theorem same_seq (n : Nat) {d e : VI.D} {xs ys : List VI.D} (h : (der S d = .lst xs ∧ e = .lst ys) ∨ (der S d = .tup xs ∧ e = .tup ys)) (hl : ys.length ≤ 100000) (a : All2 (fun d e => run n 31 [d, e] S = .ok (.bl true) S) xs ys) : run (n + 1) 31 [d, e] S = .ok (.bl true) S := by
  have hx : xs.length = ys.length := a.len
  have hz : (List.zipWith (fun x y => VI.D.tup [x, y]) xs ys).length ≤ 16777216 := by rw [List.length_zipWith]; omega
  have hc := same_lc (run n) (some d) (some e) none none none a
  have hb : gBools (fun bs => VI.D.bl (bs.all id)) S [.lst ((List.replicate xs.length true).map .bl)] = some (.bl true) := by
    rw [gBools_lst (bools_map _)]
    simp
  have hz' : xs.length ≤ 16777216 := by omega
  rw [r_31]
  rcases h with ⟨hd, rfl⟩ | ⟨hd, rfl⟩
  · have hlen : gLen S [d] = some (.int (xs.length : Nat)) := by simp [gLen, hd]
    simp [b_31, isi_of hd, isTy, hd, hlen, hx, zipD]
    simp only [List.map_replicate] at hc hb
    rw [hx] at hc hb
    have hy : ys.length ≤ 16777216 := by omega
    simp [hc, hb, hy]
  · have hlen : gLen S [d] = some (.int (xs.length : Nat)) := by simp [gLen, hd]
    simp [b_31, isi_of hd, isTy, hd, hlen, hx, zipD]
    simp only [List.map_replicate] at hc hb
    rw [hx] at hc hb
    have hy : ys.length ≤ 16777216 := by omega
    simp [hc, hb, hy]
theorem same_sm (T : Tl S r) : ∀ {n : Nat} {d e : VI.D}, Sm r n d e → ∀ m, n + 2 ≤ m → run m 31 [d, e] S = .ok (.bl true) S := by
  have flat : ∀ {d : VI.D}, flatD d = true → ∀ k, run (k + 1) 31 [d, d] S = .ok (.bl true) S := fun {d} h k => by
    rw [r_31]
    cases d <;> first | (cases h; done) | simp [b_31, isTy, gIsN]
  have nil : ∀ k, run (k + 1) 31 [.lst [], .lst []] S = .ok (.bl true) S := fun k => same_seq k (.inl ⟨rfl, rfl⟩) (by simp) .nil
  intro n
  induction n with
  | zero =>
    intro d e h m hm
    obtain ⟨k, rfl⟩ : ∃ k, m = k + 1 := Nat.exists_eq_add_of_le' (by omega)
    obtain ⟨rfl, h⟩ := h
    exact flat h k
  | succ n ih =>
    intro d e h m hm
    obtain ⟨k, rfl⟩ : ∃ k, m = k + 2 := Nat.exists_eq_add_of_le' (by omega)
    rcases h with ⟨rfl, h | h⟩ | ⟨xs, ys, h, hl, a⟩
    · exact flat h (k + 1)
    · subst h
      rw [r_31]
      simp [b_31, isTy, gIsN, gList, nil k, fKeys, derP, gBools, boolsD]
    · exact same_seq (k + 1) (h.imp (fun z => ⟨derR_der T z.1 (by simp), z.2⟩) fun z => ⟨derR_der T z.1 (by simp), z.2⟩) hl (a.imp fun d e z => ih z (k + 1) (by omega))
end
end K01
end

section
set_option Elab.async false
set_option linter.all false
set_option autoImplicit false
set_option maxRecDepth 100000
set_option maxHeartbeats 0
namespace K01
open PySem PySem.Spec L2 VI
/-! what is drawn -/
theorem st_new {b : Nat} {S r : Store} (h : St b S r) (c : Cell) : St b (S ++ [c]) (r ++ [c]) := h.app [c]
theorem st_set {b : Nat} {S r : Store} (h : St b S r) (n : Nat) (c : Cell) : St b (S.set (n + 2) c) (r.set n c) := by
  obtain ⟨a, i, j, k, rfl, h⟩ := h
  exact ⟨a, i, j, k, rfl, h⟩
/-! _law_loose -/
theorem loose_lc (k : Nat) (x : VI.D) (a b' c dd : Option VI.D) {n : Nat} (ih : ∀ {e : VI.D}, Tq n e → ∀ {b : Nat} {S r : Store}, St b S r → b + cst n e < 900000 → ∃ d S' r', run k 33 [.cell 1, e] S = .ok d S' ∧ St (b + cst n e) S' (r ++ r') ∧ Lo (r ++ r') n d e) :
    ∀ (ys : List VI.D), (∀ y ∈ ys, Tq n y) → ∀ {b : Nat} {S r : Store}, St b S r → b + (ys.map (cst n)).sum < 900000 → ∃ ds S' r', lcD (.one 5) fYes (ce_33_0 (run k)) [some (.cell 1), some x, a, b', c, dd] ys S = .ok ds S' ∧ St (b + (ys.map (cst n)).sum) S' (r ++ r') ∧ All2 (Lo (r ++ r') n) ds ys
  | [], _, b, S, r, h, _ => ⟨[], S, [], rfl, by simpa using h, .nil⟩
  | y :: ys, t, b, S, r, h, hb => by
    simp only [List.map_cons, List.sum_cons] at hb ⊢
    obtain ⟨d, S1, r1, e1, h1, l1⟩ := ih (t y List.mem_cons_self) h (by omega)
    obtain ⟨ds, S2, r2, e2, h2, l2⟩ := loose_lc k x a b' c dd ih ys (fun z hz => t z (List.mem_cons_of_mem _ hz)) h1 (by omega)
    refine ⟨d :: ds, S2, r1 ++ r2, ?_, ?_, .cons ?_ ?_⟩
    · rw [lcD_cons]
      simp [ce_33_0, e1]
      simp only [ce_33_0] at e2
      rw [e2]
    · rw [← Nat.add_assoc, ← List.append_assoc]; exact h2
    · rw [← List.append_assoc]; exact l1.app r2
    · rw [← List.append_assoc]; exact l2
theorem loose_ok : ∀ {n : Nat} {e : VI.D}, Tq n e → ∀ {b : Nat} {S r : Store}, St b S r → b + cst n e < 900000 → ∀ m, n + 2 ≤ m → ∃ d S' r', run m 33 [.cell 1, e] S = .ok d S' ∧ St (b + cst n e) S' (r ++ r') ∧ Lo (r ++ r') n d e := by
  have flat : ∀ {e : VI.D}, flatD e = true → ∀ k S, run (k + 1) 33 [.cell 1, e] S = .ok e S := fun {d} h k S => by
    rw [r_33]
    cases d <;> first | (cases h; done) | simp [b_33, isTy]
  intro n
  induction n with
  | zero =>
    intro e h b S r hs hb m hm
    obtain ⟨k, rfl⟩ : ∃ k, m = k + 1 := Nat.exists_eq_add_of_le' (by omega)
    exact ⟨e, S, [], flat h k S, by simpa [cst] using hs, rfl, h⟩
  | succ n ih =>
    intro e h b S r hs hb m hm
    obtain ⟨k, rfl⟩ : ∃ k, m = k + 2 := Nat.exists_eq_add_of_le' (by omega)
    rcases h with h | ⟨ys, he, hl, t⟩
    · exact ⟨e, S, [], flat h (k + 1) S, by simpa [cst_flat h] using hs, .inl ⟨rfl, h⟩⟩
    · have hc : cst (n + 1) e = (ys.map (cst n)).sum + 1 := by rcases he with rfl | rfl <;> simp [cst] <;> omega
      rw [hc] at hb ⊢
      obtain ⟨ds, S1, r1, e1, h1, l1⟩ := loose_lc (k + 1) e none none none none (fun t b S r => fun hs hb => ih t hs hb (k + 1) (by omega)) ys t hs (by omega)
      have h2 := st_new h1 (.lst ds)
      obtain ⟨w, S3, e3, h3, hw⟩ := pick k 2 (by omega) (by omega) (by omega) h2
      have hl2 : ys.length ≤ 16777216 := by omega
      have hd := derR_new h1.tl (.lst ds) []
      have hd3 : der S3 (.cell S1.length) = .lst ds := derR_der h3.tl hd (by simp)
      have q1 : seqIt e = some ys := by rcases he with rfl | rfl <;> rfl
      have q2 : gIsi1 [.list, .tuple] S e = some (.bl true) := by rcases he with rfl | rfl <;> simp [isTy]
      by_cases hz : w = 0
      · subst hz
        refine ⟨.cell S1.length, S3, r1 ++ [.lst ds], ?_, ?_, .inr ⟨ds, ys, .inl ?_, he, hl, ?_⟩⟩
        · rw [r_33]
          simp [b_33, q2, q1, hl2, e1, e3]
        · rw [← List.append_assoc]; exact h3
        · rw [← List.append_assoc]; exact hd
        · rw [← List.append_assoc]; exact l1.imp fun _ _ z => z.app _
      · refine ⟨.tup ds, S3, r1 ++ [.lst ds], ?_, ?_, .inr ⟨ds, ys, .inr rfl, he, hl, ?_⟩⟩
        · have hz' : ¬ ((w : Int) = 0) := by omega
          rw [r_33]
          simp [b_33, q2, q1, hl2, e1, e3, hz, gTuple, hd3]
        · rw [← List.append_assoc]; exact h3
        · rw [← List.append_assoc]; exact l1.imp fun _ _ z => z.app _
/-! _law_spoil -/
theorem spoil_flat {d : VI.D} (h : flatD d = true) (k : Nat) (S : Store) : run (k + 1) 34 [d] S = .ok d S := by
  rw [r_34]
  cases d <;> first | (cases h; done) | simp [b_34, isTy]
theorem spoil_lp1 (k : Nat) (S : Store) (x y : Option VI.D) : ∀ (ds : List VI.D), (∀ d ∈ ds, ∃ e, run k 34 [d] S = .ok e S) → ∀ z, ∃ z', forD (.one 1) (fb_34_0 (run k)) ds [x, z, y] S = .nx [x, z', y] S
  | [], _, z => ⟨z, rfl⟩
  | d :: ds, h, z => by
    obtain ⟨e, he⟩ := h d List.mem_cons_self
    obtain ⟨z', e'⟩ := spoil_lp1 k S x y ds (fun d hd => h d (List.mem_cons_of_mem _ hd)) (some d)
    exact ⟨z', by rw [forD_step rfl (δ2 := [x, some d, y]) (S2 := S) (by simp [fb_34_0, he]), e']⟩
theorem spoil_1 {d : VI.D} (h : Sp1 d) (k : Nat) (S : Store) : ∃ e, run (k + 2) 34 [d] S = .ok e S := by
  rcases h with h | ⟨xs, rfl, h⟩
  · exact ⟨d, spoil_flat h (k + 1) S⟩
  · obtain ⟨z', e⟩ := spoil_lp1 (k + 1) S (some (.tup xs)) none xs (fun x hx => ⟨x, spoil_flat (h x hx) k S⟩) none
    refine ⟨.tup xs, ?_⟩
    rw [r_34]
    simp [b_34, isTy, gList, e]
/-- a list in a cell: each thing within is spoilt, then one more stands there -/
theorem spoil_cell {b : Nat} (k : Nat) {S S1 r r1 : Store} {c : Nat} {xs : List VI.D} {z' : Option VI.D} {g : Nat} (h : St b S r) (hr : r[c]? = some (.lst xs)) (e : forD (.one 1) (fb_34_0 (run k)) xs [some (.cell (c + 2)), none, none] S = .nx [some (.cell (c + 2)), z', none] S1)
    (h1 : St b S1 r1) (g1 : Gr g r r1) (hl : xs.length + g < 1000000) : ∃ e S' r', run (k + 1) 34 [.cell (c + 2)] S = .ok e S' ∧ St b S' r' ∧ Gr (g + 1) r r' := by
  obtain ⟨zs, q1, q2, q3⟩ := g1 c xs hr
  generalize hys : xs ++ zs = ys at q1
  have q2 : ys.length ≤ xs.length + g := by rw [← hys, List.length_append]; omega
  have d0 : der S (.cell (c + 2)) = .lst xs := derR_der (d := .cell (c + 2)) h.tl (by simp [derR, hr]) (by simp)
  have d1 : S1[c + 2]? = some (.lst ys) := by
    obtain ⟨c0, c1, rfl⟩ := h1.tl
    simpa using q1
  have d2 : der S1 (.cell (c + 2)) = .lst ys := der_cell d1
  have hl2 : ys.length < 16777216 := by omega
  have h2 := st_set h1 c (.lst (ys ++ [.str "spoilt"]))
  have d3 : der (S1.set (c + 2) (.lst (ys ++ [.str "spoilt"]))) (.cell (c + 2)) = .lst (ys ++ [.str "spoilt"]) := der_cell (by
    rw [List.getElem?_set_self]
    exact (List.getElem?_eq_some_iff.mp d1).1)
  refine ⟨.cell (c + 2), S1.set (c + 2) (.lst (ys ++ [.str "spoilt"])), _, ?_, h2, g1.trans (gr_set q1 rfl)⟩
  rw [r_34]
  simp [b_34, isi_of d0, isTy, gList, d0, e, isi_of d2, d1, app_lst, hl2, isi_of d3]
def Ce1 (K : Nat) (r : Store) (d : VI.D) : Prop := Sp1 d ∨ ∃ c xs, d = .cell (c + 2) ∧ r[c]? = some (.lst xs) ∧ (∀ x ∈ xs, Sp1 x) ∧ xs.length ≤ K
theorem Ce1.gr {K g : Nat} {r r' : Store} {d : VI.D} (h : Ce1 K r d) (g1 : Gr g r r') : Ce1 (K + g) r' d := by
  rcases h with h | ⟨c, xs, rfl, h1, h2, h3⟩
  · exact .inl h
  · obtain ⟨zs, q1, q2, q3⟩ := g1 c xs h1
    refine .inr ⟨c, _, rfl, q1, fun x hx => ?_, by rw [List.length_append]; omega⟩
    rcases List.mem_append.mp hx with hx | hx
    · exact h2 x hx
    · exact .inl (q3 x hx)
theorem spoil_2 {b K : Nat} (hK : K ≤ 900000) (k : Nat) {S r : Store} {d : VI.D} (h : St b S r) (hd : Ce1 K r d) : ∃ e S' r', run (k + 3) 34 [d] S = .ok e S' ∧ St b S' r' ∧ Gr 1 r r' := by
  rcases hd with hd | ⟨c, xs, rfl, h1, h2, h3⟩
  · obtain ⟨e, he⟩ := spoil_1 hd (k + 1) S
    exact ⟨e, S, r, he, h, Gr.refl.le (by omega)⟩
  · obtain ⟨z', e⟩ := spoil_lp1 (k + 2) S (some (.cell (c + 2))) none xs (fun x hx => spoil_1 (h2 x hx) k S) none
    exact spoil_cell (k + 2) h h1 e h Gr.refl (by omega)
theorem spoil_lp2 (k : Nat) (x y : Option VI.D) {b : Nat} : ∀ (ds : List VI.D) (K : Nat) {S r : Store}, St b S r → (∀ d ∈ ds, Ce1 K r d) → K + ds.length ≤ 900000 → ∀ z, ∃ z' S' r', forD (.one 1) (fb_34_0 (run (k + 3))) ds [x, z, y] S = .nx [x, z', y] S' ∧ St b S' r' ∧ Gr ds.length r r'
  | [], K, S, r, h, _, _, z => ⟨z, S, r, rfl, h, Gr.refl⟩
  | d :: ds, K, S, r, h, hd, hl, z => by
    simp only [List.length_cons] at hl
    obtain ⟨e, S1, r1, e1, h1, g1⟩ := spoil_2 (K := K) (by omega) k h (hd d List.mem_cons_self)
    obtain ⟨z', S2, r2, e2, h2, g2⟩ := spoil_lp2 k x y ds (K + 1) h1 (fun d' hd' => (hd d' (List.mem_cons_of_mem _ hd')).gr g1) (by omega) (some d)
    refine ⟨z', S2, r2, ?_, h2, ?_⟩
    · rw [forD_step rfl (δ2 := [x, some d, y]) (S2 := S1) (by simp [fb_34_0, e1]), e2]
    · have := g1.trans g2
      rw [List.length_cons, Nat.add_comm]
      exact this
/-- a cell of cells -/
theorem spoil_3 {b : Nat} (k : Nat) {S r : Store} {c : Nat} {ds : List VI.D} (h : St b S r) (hr : r[c]? = some (.lst ds)) (hd : ∀ d ∈ ds, Ce1 1000 r d) (hl : ds.length ≤ 1000) : ∃ e S' r', run (k + 4) 34 [.cell (c + 2)] S = .ok e S' ∧ St b S' r' ∧ Gr (ds.length + 1) r r' := by
  obtain ⟨z', S1, r1, e, h1, g1⟩ := spoil_lp2 k (some (.cell (c + 2))) none ds 1000 h hd (by omega) none
  exact spoil_cell (k + 3) h hr e h1 g1 (by omega)
/-- told: words, atoms, places -/
theorem spoil_top {b : Nat} (k : Nat) {S r : Store} {c cp : Nat} {w a : VI.D} {ds : List VI.D} (h : St b S r) (hr : r[c]? = some (.lst [w, a, .cell (cp + 2)])) (hw : Ce1 900 r w) (ha : Ce1 900 r a) (hp : r[cp]? = some (.lst ds)) (hd : ∀ d ∈ ds, Ce1 900 r d) (hl : ds.length ≤ 900) :
    ∃ e S' r', run (k + 5) 34 [.cell (c + 2)] S = .ok e S' ∧ St b S' r' := by
  obtain ⟨x1, S1, r1, e1, h1, g1⟩ := spoil_2 (by omega) (k + 1) h hw
  obtain ⟨x2, S2, r2, e2, h2, g2⟩ := spoil_2 (by omega) (k + 1) h1 (ha.gr g1)
  have g12 := g1.trans g2
  obtain ⟨zs, q1, q2, q3⟩ := g12 cp ds hp
  have hd2 : ∀ d ∈ ds ++ zs, Ce1 1000 r2 d := fun d hd' => by
    rcases List.mem_append.mp hd' with hd' | hd'
    · rcases (hd d hd').gr g12 with z | ⟨c, xs, rfl, a1, a2, a3⟩
      · exact .inl z
      · exact .inr ⟨c, xs, rfl, a1, a2, by omega⟩
    · exact .inl (.inl (q3 d hd'))
  have hl2 : (ds ++ zs).length ≤ 1000 := by rw [List.length_append]; omega
  obtain ⟨x3, S3, r3, e3, h3, g3⟩ := spoil_3 k h2 q1 hd2 hl2
  have e : forD (.one 1) (fb_34_0 (run (k + 4))) [w, a, .cell (cp + 2)] [some (.cell (c + 2)), none, none] S = .nx [some (.cell (c + 2)), some (.cell (cp + 2)), none] S3 := by
    rw [forD_step rfl (δ2 := [some (.cell (c + 2)), some w, none]) (S2 := S1) (by simp [fb_34_0, e1]), forD_step rfl (δ2 := [some (.cell (c + 2)), some a, none]) (S2 := S2) (by simp [fb_34_0, e2]),
      forD_step rfl (δ2 := [some (.cell (c + 2)), some (.cell (cp + 2)), none]) (S2 := S3) (by simp [fb_34_0, e3])]
    rfl
  obtain ⟨x4, S4, r4, e4, h4, _⟩ := spoil_cell (k + 4) h hr e h3 (g12.trans g3) (by simp; omega)
  exact ⟨x4, S4, r4, e4, h4⟩
end K01
end

section
set_option Elab.async false
set_option linter.all false
set_option autoImplicit false
set_option maxRecDepth 100000
set_option maxHeartbeats 0
namespace K01
open PySem PySem.Spec L2 VI
/-! words -/
theorem wd_low {w : Str} (h : wdB w = true) : allLow w = true ∧ 0 < w.length ∧ w.length ≤ 8 := by
  simp only [wdB, letB, Bool.and_eq_true, decide_eq_true_eq] at h
  exact ⟨h.1.2, h.1.1, h.2⟩
theorem free_lp {S : Store} (rn : Nat → List VI.D → Store → Res) {taken : VI.D} {ws : List Str} (ht : der S taken = .lst (ws.map .str)) : ∀ (L : List Nat), (∀ k ∈ L, k < 600) → ∀ (w : Str) (x : Option VI.D), wdB w = true →
    ∃ w', wdB w' = true ∧ ((∃ x', forD (.one 2) (fb_35_0 rn) (L.map fun i => .int (i : Nat)) [some taken, some (.str w), x] S = .nx [some taken, some (.str w'), x'] S) ∨ forD (.one 2) (fb_35_0 rn) (L.map fun i => .int (i : Nat)) [some taken, some (.str w), x] S = .ret (.str w') S)
  | [], _, w, x, hw => ⟨w, hw, .inl ⟨x, rfl⟩⟩
  | k :: L, hL, w, x, hw => by
    have hk := hL k List.mem_cons_self
    have hin := in_strs S true w ht
    by_cases hm : w ∈ ws
    · obtain ⟨c1, l1, g1⟩ := low_at' (x := "qxyz") (by decide +kernel) (by decide +kernel) S (i := (k : Int).fmod 4) (Int.fmod_nonneg_of_pos _ (by omega)) (by rw [show (("qxyz" : Str).length : Int) = 4 by decide +kernel]; exact Int.fmod_lt_of_pos _ (by omega))
      obtain ⟨c2, l2, g2⟩ := low_at' (x := "abcdefghijklmnopqrstuvwxyz") (by decide +kernel) (by decide +kernel) S (i := ((k : Int).fdiv 4).fmod 26) (Int.fmod_nonneg_of_pos _ (by omega)) (by rw [show (("abcdefghijklmnopqrstuvwxyz" : Str).length : Int) = 26 by decide +kernel]; exact Int.fmod_lt_of_pos _ (by omega))
      obtain ⟨c3, l3, g3⟩ := low_at' (x := "abcdefghij") (by decide +kernel) (by decide +kernel) S (i := (k : Int).fdiv 104) (Int.fdiv_nonneg (by omega) (by omega)) (by rw [show (("abcdefghij" : Str).length : Int) = 10 by decide +kernel, Int.fdiv_eq_ediv_of_nonneg _ (by omega)]; omega)
      have hw' : wdB (⟨#[c1]⟩ ++ ⟨#[c2]⟩ ++ ⟨#[c3]⟩ : Str) = true := wd_of (by rw [str_app_low, str_app_low, low1 l1, low1 l2, low1 l3]; rfl) (by rw [str_app_len]; show 0 < _ + 1; omega) (by rw [str_app_len, str_app_len]; show 1 + 1 + 1 ≤ 8; omega)
      obtain ⟨w2, h2, r2⟩ := free_lp rn ht L (fun k hk => hL k (List.mem_cons_of_mem _ hk)) _ (some (.int (k : Nat))) hw'
      have e1 : fb_35_0 rn [some taken, some (.str w), some (.int (k : Nat))] S = .nx [some taken, some (.str (⟨#[c1]⟩ ++ ⟨#[c2]⟩ ++ ⟨#[c3]⟩ : Str)), some (.int (k : Nat))] S := by
        have a1 := add_str S ⟨#[c1]⟩ ⟨#[c2]⟩ (by show 1 + 1 ≤ _; omega)
        have a2 := add_str S (⟨#[c1]⟩ ++ ⟨#[c2]⟩) ⟨#[c3]⟩ (by rw [str_app_len]; show 1 + 1 + 1 ≤ _; omega)
        simp [fb_35_0, hin, hm, gMod, gII, bMod, gFdv, bDiv, g1, g2, g3, a1, a2]
      refine ⟨w2, h2, ?_⟩
      rw [List.map_cons, forD_step rfl e1]
      exact r2
    · refine ⟨w, hw, .inr ?_⟩
      rw [List.map_cons]
      exact forD_ret rfl (by simp [fb_35_0, hin, hm])
theorem free_ok {S : Store} (n : Nat) {taken : VI.D} {ws : List Str} (ht : der S taken = .lst (ws.map .str)) {w : Str} (hw : wdB w = true) : ∃ w', wdB w' = true ∧ run (n + 1) 35 [taken, .str w] S = .ok (.str w') S := by
  obtain ⟨w', h', e⟩ := free_lp (run n) ht (List.range 600) (fun k hk => List.mem_range.mp hk) w none hw
  refine ⟨w', h', ?_⟩
  have er : rngD 0 600 = (List.range 600).map fun i => VI.D.int (i : Nat) := by simp [rngD]
  rw [r_35]
  rcases e with ⟨x', e⟩ | e
  · simp [b_35, er, e]
  · simp [b_35, er, e]
theorem more_lp {b : Nat} (n : Nat) (mn c kk : Option VI.D) (few : Bool) : ∀ (L : List VI.D) {b : Nat} {S r : Store} (w : Str) (x : Option VI.D), St b S r → b + L.length < 900000 → allLow w = true → w.length + L.length ≤ 1000 →
    ∃ w' x' S', forD (.one 6) (fb_36_0 (run (n + 1))) L [some (.cell 1), mn, some (.bl few), c, kk, some (.str w), x] S = .nx [some (.cell 1), mn, some (.bl few), c, kk, some (.str w'), x'] S' ∧ St (b + L.length) S' r ∧ allLow w' = true ∧ w'.length = w.length + L.length
  | [], b, S, r, w, x, h, _, hw, _ => ⟨w, x, S, rfl, h, hw, rfl⟩
  | d :: L, b, S, r, w, x, h, hb, hw, hl => by
    simp only [List.length_cons] at hb hl
    have key : ∃ ch S1, lowB ch = true ∧ St (b + 1) S1 r ∧ fb_36_0 (run (n + 1)) [some (.cell 1), mn, some (.bl few), c, kk, some (.str w), some d] S = .nx [some (.cell 1), mn, some (.bl few), c, kk, some (.str (w ++ ⟨#[ch]⟩)), some d] S1 := by
      cases few with
      | true =>
        obtain ⟨k, S1, e, h1, l⟩ := pick n 3 (by omega) (by omega) (by omega) h
        obtain ⟨ch, lc, g⟩ := low_at (x := "abc") (by decide +kernel) (by decide +kernel) S1 (i := k) (by rw [show ("abc" : Str).length = 3 by decide +kernel]; omega)
        have a := add_str S1 w ⟨#[ch]⟩ (by show _ + 1 ≤ _; omega)
        exact ⟨ch, S1, lc, h1, by simp [fb_36_0, e, g, a]⟩
      | false =>
        obtain ⟨k, S1, e, h1, l⟩ := pick n 26 (by omega) (by omega) (by omega) h
        obtain ⟨ch, lc, g⟩ := low_at (x := "abcdefghijklmnopqrstuvwxyz") (by decide +kernel) (by decide +kernel) S1 (i := k) (by rw [show ("abcdefghijklmnopqrstuvwxyz" : Str).length = 26 by decide +kernel]; omega)
        have a := add_str S1 w ⟨#[ch]⟩ (by show _ + 1 ≤ _; omega)
        exact ⟨ch, S1, lc, h1, by simp [fb_36_0, e, g, a]⟩
    obtain ⟨ch, S1, lc, h1, e1⟩ := key
    have l1 : (w ++ ⟨#[ch]⟩ : Str).length = w.length + 1 := str_app_len _ _
    obtain ⟨w', x', S2, e2, h2, q1, q2⟩ := more_lp (b := b) n mn c kk few L (w ++ ⟨#[ch]⟩) (some d) h1 (by omega) (by rw [str_app_low, hw, low1 lc]; rfl) (by omega)
    refine ⟨w', x', S2, ?_, ?_, q1, by simp only [List.length_cons]; omega⟩
    · rw [forD_step rfl e1, e2]
    · simp only [List.length_cons]; exact h2.le (by omega)
theorem words_lp (n : Nat) (mn : Option VI.D) (few : Bool) {r : Store} : ∀ (L : List VI.D) {b : Nat} {S : Store} (ws : List Str) (k w x : Option VI.D), St b S (r ++ [.lst (ws.map .str)]) → b + 9 * L.length < 900000 → (∀ w ∈ ws, wdB w = true) → ws.length + L.length ≤ 1000 →
    ∃ (ws' : List Str) (k' w' x' : Option VI.D) (S' : Store), forD (.one 4) (fb_36_1 (run (n + 1))) L [some (.cell 1), mn, some (.bl few), some (.cell (r.length + 2)), k, w, x] S = .nx [some (.cell 1), mn, some (.bl few), some (.cell (r.length + 2)), k', w', x'] S' ∧ St (b + 9 * L.length) S' (r ++ [.lst (ws'.map .str)]) ∧ (∀ w ∈ ws', wdB w = true) ∧ ws'.length = ws.length + L.length
  | [], b, S, ws, k, w, x, h, _, hw, _ => ⟨ws, k, w, x, S, rfl, h, hw, rfl⟩
  | d :: L, b, S, ws, k, w, x, h, hb, hw, hl => by
    simp only [List.length_cons] at hb hl
    have key : ∃ w1 S1, wdB w1 = true ∧ St (b + 9) S1 (r ++ [.lst ((ws ++ [w1]).map .str)]) ∧ ∃ x1 x2, fb_36_1 (run (n + 1)) [some (.cell 1), mn, some (.bl few), some (.cell (r.length + 2)), some d, w, x] S = .nx [some (.cell 1), mn, some (.bl few), some (.cell (r.length + 2)), some d, x1, x2] S1 := by
      have first : ∃ ch S1, lowB ch = true ∧ St (b + 1) S1 (r ++ [.lst (ws.map .str)]) ∧ fIf (fVar 2) (fin2 (fCon (.str "ab")) (fCall (consR (fVar 0) (consR (fCon (.int 2)) fNil)) (run (n + 1) 28)) gIx) (fin2 (fCon (.str "abcdefghijklmnopqrstuvwxyz")) (fCall (consR (fVar 0) (consR (fCon (.int 26)) fNil)) (run (n + 1) 28)) gIx) [some (.cell 1), mn, some (.bl few), some (.cell (r.length + 2)), some d, w, x] S = .ok (.str ⟨#[ch]⟩) S1 := by
        cases few with
        | true =>
          obtain ⟨k, S1, e, h1, l⟩ := pick n 2 (by omega) (by omega) (by omega) h
          obtain ⟨ch, lc, g⟩ := low_at (x := "ab") (by decide +kernel) (by decide +kernel) S1 (i := k) (by rw [show ("ab" : Str).length = 2 by decide +kernel]; omega)
          exact ⟨ch, S1, lc, h1, by simp [e, g]⟩
        | false =>
          obtain ⟨k, S1, e, h1, l⟩ := pick n 26 (by omega) (by omega) (by omega) h
          obtain ⟨ch, lc, g⟩ := low_at (x := "abcdefghijklmnopqrstuvwxyz") (by decide +kernel) (by decide +kernel) S1 (i := k) (by rw [show ("abcdefghijklmnopqrstuvwxyz" : Str).length = 26 by decide +kernel]; omega)
          exact ⟨ch, S1, lc, h1, by simp [e, g]⟩
      obtain ⟨ch, S1, lc, h1, e1⟩ := first
      have many : ∃ (m : Nat) (S2 : Store), m ≤ 7 ∧ St (b + 1 + 1) S2 (r ++ [.lst (ws.map .str)]) ∧ fRng (consR (fCall (consR (fVar 0) (consR (fIf (fVar 2) (fCon (.int 3)) (fCon (.int 8))) fNil)) (run (n + 1) 28)) fNil) [some (.cell 1), mn, some (.bl few), some (.cell (r.length + 2)), some d, some (.str ⟨#[ch]⟩), x] S1 = .ok (rngD 0 m) S2 := by
        cases few with
        | true =>
          obtain ⟨k, S2, e, h2, l⟩ := pick n 3 (by omega) (by omega) (by omega) h1
          have hk : -4611686018427387904 ≤ (k : Int) ∧ (k : Int) < 4611686018427387904 := by omega
          exact ⟨k, S2, by omega, h2, by simp [e, hk]⟩
        | false =>
          obtain ⟨k, S2, e, h2, l⟩ := pick n 8 (by omega) (by omega) (by omega) h1
          have hk : -4611686018427387904 ≤ (k : Int) ∧ (k : Int) < 4611686018427387904 := by omega
          exact ⟨k, S2, by omega, h2, by simp [e, hk]⟩
      obtain ⟨m, S2, hm, h2, e2⟩ := many
      have hlen := rngD_len 0 m
      obtain ⟨w', x', S3, e3, h3, q1, q2⟩ := more_lp (b := b) n mn (some (.cell (r.length + 2))) (some d) few (rngD 0 m) ⟨#[ch]⟩ x h2 (by omega) (low1 lc) (by show 1 + _ ≤ _; omega)
      have q2 : w'.length = 1 + m := by rw [q2, hlen]; rfl
      have dS : S3[r.length + 2]? = some (.lst (ws.map .str)) := by
        obtain ⟨c0, c1, rfl⟩ := h3.tl
        simp
      obtain ⟨w1, g1, e4⟩ := free_ok n (taken := .cell (r.length + 2)) (der_cell dS) (wd_of q1 (by omega) (by omega))
      have hs := st_set h3 r.length (.lst ((ws.map .str) ++ [.str w1]))
      refine ⟨w1, S3.set (r.length + 2) (.lst ((ws.map .str) ++ [.str w1])), g1, ?_, some (.str w'), x', ?_⟩
      · have : (r ++ [Cell.lst (ws.map .str)]).set r.length (.lst ((ws.map .str) ++ [.str w1])) = r ++ [.lst ((ws ++ [w1]).map .str)] := by simp
        rw [this] at hs
        exact hs.le (by omega)
      · have hz : (ws.map VI.D.str).length < 16777216 := by simp; omega
        have ea : sAsg 5 (fIf (fVar 2) (fin2 (fCon (.str "ab")) (fCall (consR (fVar 0) (consR (fCon (.int 2)) fNil)) (run (n + 1) 28)) gIx) (fin2 (fCon (.str "abcdefghijklmnopqrstuvwxyz")) (fCall (consR (fVar 0) (consR (fCon (.int 26)) fNil)) (run (n + 1) 28)) gIx)) [some (.cell 1), mn, some (.bl few), some (.cell (r.length + 2)), some d, w, x] S = .nx [some (.cell 1), mn, some (.bl few), some (.cell (r.length + 2)), some d, some (.str ⟨#[ch]⟩), x] S1 := by rw [s_asg, e1]; rfl
        unfold fb_36_1
        rw [s_seq, ea]
        dsimp only
        rw [s_seq, s_for, e2]
        dsimp only
        rw [e3]
        have ha := app_lst S3 (ws.map .str) (.str w1) hz
        simp [dS, e4, ha]
    obtain ⟨w1, S1, g1, h1, x1, x2, e1⟩ := key
    obtain ⟨ws', k', w', x', S2, e2, h2, q1, q2⟩ := words_lp n mn few L (ws ++ [w1]) (some d) x1 x2 h1 (by omega) (fun v hv => by
      rcases List.mem_append.mp hv with hv | hv
      · exact hw v hv
      · rw [List.mem_singleton] at hv; exact hv ▸ g1) (by simp; omega)
    refine ⟨ws', k', w', x', S2, ?_, ?_, q1, by simp at q2; simp only [List.length_cons]; omega⟩
    · rw [forD_step rfl e1, e2]
    · simp only [List.length_cons]; exact h2.le (by omega)
theorem words_ok (n : Nat) {b : Nat} {S r : Store} (many : Nat) (h1 : 1 ≤ many) (h2 : many ≤ 90) (hb : b < 800000) (h : St b S r) :
    ∃ (S' : Store) (ws : List Str), run (n + 2) 36 [.cell 1, .int (many : Nat)] S = .ok (.cell (r.length + 2)) S' ∧ St (b + 1 + 9 * many) S' (r ++ [.lst (ws.map .str)]) ∧ (∀ w ∈ ws, wdB w = true) ∧ ws.length = many := by
  obtain ⟨d, S1, e1, g1, l1⟩ := pick n 2 (by omega) (by omega) (by omega) h
  have g2 := st_new g1 (.lst ([].map .str))
  have hlen : (rngD 0 many).length = many := rngD_len 0 many
  have hl : S1.length = r.length + 2 := g1.tl.len
  obtain ⟨ws, k', w', x', S2, e2, g3, q1, q2⟩ := words_lp n (some (.int (many : Nat))) (decide ((d : Int) = 0)) (rngD 0 many) [] none none none g2 (by omega) (by simp) (by simp; omega)
  refine ⟨S2, ws, ?_, by rw [hlen] at g3; exact g3, q1, by rw [q2, hlen]; simp⟩
  have hk : -4611686018427387904 ≤ (many : Int) ∧ (many : Int) < 4611686018427387904 := by omega
  rw [List.map_nil] at e2
  rw [r_36]
  unfold b_36
  have a1 : sPar 2 3 (fin2 (fCall (consR (fVar 0) (consR (fCon (.int 2)) fNil)) (run (n + 1) 28)) (fCon (.int 0)) (gEq false)) (fCell (fLst fNil)) [some (.cell 1), some (.int (many : Nat)), none, none, none, none, none] S = .nx [some (.cell 1), some (.int (many : Nat)), some (.bl (decide ((d : Int) = 0))), some (.cell (r.length + 2)), none, none, none] (S1 ++ [.lst []]) := by
    simp [e1, hl]
  have a2 : fRng (consR (fVar 1) fNil) [some (.cell 1), some (.int (many : Nat)), some (.bl (decide ((d : Int) = 0))), some (.cell (r.length + 2)), none, none, none] (S1 ++ [.lst []]) = .ok (rngD 0 many) (S1 ++ [.lst []]) := by
    simp [hk]
  rw [s_seq, a1]
  dsimp only
  rw [s_seq, s_for, a2]
  dsimp only
  rw [e2]
  rfl
theorem word_set_ok (n : Nat) {b : Nat} {S r : Store} (many : Int) (h1 : 1 ≤ many) (h2 : many ≤ 80) (hb : b < 700000) (h : St b S r) :
    ∃ (S' : Store) (ws : List Str), run (n + 3) 37 [.cell 1, .int many] S = .ok (.cell (r.length + 2)) S' ∧ St (b + 1000) S' (r ++ [.lst (ws.map .str)]) ∧ (∀ w ∈ ws, wdB w = true) ∧ 0 < ws.length ∧ ws.length ≤ 80 := by
  obtain ⟨d, S1, e1, g1, l1⟩ := pick (n + 1) many h1 (by omega) (by omega) h
  obtain ⟨S2, ws, e2, g2, q1, q2⟩ := words_ok n (1 + d) (by omega) (by omega) (by omega) g1
  refine ⟨S2, ws, ?_, g2.le (by omega), q1, by omega, by omega⟩
  rw [r_37]
  simp at e2
  simp [b_37, e1, e2]
/-! drawn formulas -/
theorem draw_ok (n : Nat) {r : Store} {wd : VI.D} {ws : List Str} (hd : Sq2 r wd (ws.map .str)) (hw : ∀ w ∈ ws, wdB w = true) (h1 : 0 < ws.length) (h2 : ws.length ≤ 100) : ∀ (many : Nat), 1 ≤ many → many ≤ 1000 → ∀ {b : Nat} {S : Store}, St b S r → b + 4 * many < 900000 → ∀ m, many + 2 ≤ m →
    ∃ (φ : Fm) (S' : Store), run m 38 [.cell 1, wd, .int (many : Nat)] S = .ok φ.d S' ∧ St (b + (4 * many - 2)) S' r ∧ φ.sz = many ∧ φ.ok := by
  intro many
  induction many using Nat.strongRecOn with
  | _ many ih =>
    intro hm1 hm2 b S h hb m hm
    obtain ⟨k, rfl⟩ : ∃ k, m = k + 3 := Nat.exists_eq_add_of_le' (by omega)
    by_cases hone : many = 1
    · subst hone
      obtain ⟨x, S1, e1, g1, q1⟩ := one k (sq2_lst (xs := [.str "up", .str "down"])) (by simp) (by simp) (by omega) h
      obtain ⟨y, S2, e2, g2, q2⟩ := one k hd (by intro z; rw [List.map_eq_nil_iff] at z; rw [z] at h1; simp at h1) (by simp; omega) (by omega) g1
      obtain ⟨w, hw1, rfl⟩ := List.mem_map.mp q2
      have hx : ∃ s, x = .str (sgS s) := by
        simp only [List.mem_cons, List.not_mem_nil, or_false] at q1
        rcases q1 with rfl | rfl
        · exact ⟨true, rfl⟩
        · exact ⟨false, rfl⟩
      obtain ⟨s, rfl⟩ := hx
      refine ⟨.at s w, S2, ?_, g2.le (by omega), rfl, hw w hw1⟩
      rw [r_38]
      simp [b_38, e1, e2, Fm.d]
    · obtain ⟨d, S1, e1, g1, l1⟩ := pick (k + 1) ((many : Int) - 1) (by omega) (by omega) (by omega) h
      obtain ⟨x, S2, e2, g2, q2⟩ := one k (sq2_lst (xs := [.str "both", .str "else"])) (by simp) (by simp) (by omega) g1
      have hx : ∃ s, x = .str (kdS s) := by
        simp only [List.mem_cons, List.not_mem_nil, or_false] at q2
        rcases q2 with rfl | rfl
        · exact ⟨true, rfl⟩
        · exact ⟨false, rfl⟩
      obtain ⟨s, rfl⟩ := hx
      obtain ⟨φ, S3, e3, g3, z1, o1⟩ := ih (1 + d) (by omega) (by omega) (by omega) g2 (by omega) (k + 2) (by omega)
      obtain ⟨ψ, S4, e4, g4, z2, o2⟩ := ih (many - (1 + d)) (by omega) (by omega) (by omega) g3 (by omega) (k + 2) (by omega)
      refine ⟨.nd s φ ψ, S4, ?_, g4.le (by omega), by simp only [Fm.sz]; omega, o1, o2⟩
      have hn : ¬ ((many : Int) = 1) := by omega
      have hc : ((many - (1 + d) : Nat) : Int) = (many : Int) - (1 + (d : Int)) := by omega
      rw [hc] at e4
      simp at e3
      rw [r_38]
      simp [b_38, hone, hn, e1, e2, e3, e4, Fm.d]
end K01
end

section
set_option Elab.async false
set_option linter.all false
set_option autoImplicit false
set_option maxRecDepth 100000
set_option maxHeartbeats 0
namespace K01
open PySem PySem.Spec L2 VI
/-! what is no formula -/
def isW : VI.D → Bool
  | .str w => wdB w
  | _ => false
def isSeq : VI.D → Bool
  | .lst _ => true
  | .tup _ => true
  | _ => false
def isS : VI.D → Bool
  | .str _ => true
  | _ => false
def isT2 (p q : Str) : VI.D → Bool
  | .str x => decide (p = x) || decide (q = x)
  | _ => false
section
variable {S : Store}
theorem tr_isS {n : Nat} {c : VI.D} (h : Tr n c) : gIsi1 [.str] S c = some (.bl (isS c)) := by
  cases c with
  | cell _ => cases n with
    | zero => cases h
    | succ n => rcases h with h | h | ⟨_, h | h, _⟩ <;> cases h
  | fn _ => cases n with
    | zero => cases h
    | succ n => rcases h with h | h | ⟨_, h | h, _⟩ <;> cases h
  | scr _ => cases n with
    | zero => cases h
    | succ n => rcases h with h | h | ⟨_, h | h, _⟩ <;> cases h
  | exc _ _ => cases n with
    | zero => cases h
    | succ n => rcases h with h | h | ⟨_, h | h, _⟩ <;> cases h
  | _ => simp [isTy, isS]
theorem tr_isQ {n : Nat} {c : VI.D} (h : Tr n c) : gIsi1 [.list, .tuple] S c = some (.bl (isSeq c)) := by
  cases c with
  | cell _ => cases n with
    | zero => cases h
    | succ n => rcases h with h | h | ⟨_, h | h, _⟩ <;> cases h
  | fn _ => cases n with
    | zero => cases h
    | succ n => rcases h with h | h | ⟨_, h | h, _⟩ <;> cases h
  | scr _ => cases n with
    | zero => cases h
    | succ n => rcases h with h | h | ⟨_, h | h, _⟩ <;> cases h
  | exc _ _ => cases n with
    | zero => cases h
    | succ n => rcases h with h | h | ⟨_, h | h, _⟩ <;> cases h
  | _ => simp [isTy, isSeq]
theorem tr_str {n : Nat} {x : Str} (h : Tr n (.str x)) : x.length ≤ 1000 := by
  cases n with
  | zero => simpa [Tr, flS] using h
  | succ n => rcases h with h | h | ⟨_, h | h, _⟩
              · simpa [flS] using h
              · cases h
              · cases h
              · cases h
theorem is_text_tr {n : Nat} (k : Nat) {c : VI.D} (h : Tr n c) : run (k + 1) 4 [c] S = .ok (.bl (isS c)) S := by
  rw [r_4]; simp [b_4, tr_isS h]
theorem is_word_tr {n : Nat} (k : Nat) {c : VI.D} (h : Tr n c) : run (k + 3) 6 [c] S = .ok (.bl (isW c)) S := by
  by_cases hs : ∃ x, c = .str x
  · obtain ⟨x, rfl⟩ := hs
    exact is_word_ok k x (tr_str h)
  · have e0 : isS c = false := by cases c <;> first | rfl | exact absurd ⟨_, rfl⟩ hs
    have e1 : isW c = false := by cases c <;> first | rfl | exact absurd ⟨_, rfl⟩ hs
    have e2 := is_text_tr (S := S) k h
    rw [e0] at e2
    have e3 : run (k + 2) 5 [c] S = .ok (.bl false) S := by
      rw [r_5]; simp [b_5, e2]
    rw [r_6]
    simp [b_6, e3, e1]
theorem law_letters_lc (rn : Nat → List VI.D → Store → Res) (w : Str) (x y : Option VI.D) : lcD (.one 1) fYes (ce_42_0 rn) [x, y] (signs w) S = .ok (w.cps.toList.map fun c => .bl (lowB c)) S :=
  lc_pure _ _ _ fun c _ => ⟨[x, some (.str ⟨#[c]⟩)], rfl, by simp [ce_42_0, in_abc]⟩
theorem law_is_word_tr {n : Nat} (k : Nat) {c : VI.D} (h : Tr n c) : run (k + 1) 42 [c] S = .ok (.bl (isW c)) S := by
  by_cases hs : ∃ x, c = .str x
  · obtain ⟨w, rfl⟩ := hs
    have hw := tr_str h
    have h1 : w.length ≤ sizeLine := by rw [sizeLine_eq]; omega
    have h2 : (signs w).length ≤ 16777216 := by rw [signs_len]; omega
    have e1 := law_letters_lc (S := S) (run k) w (some (.str w)) none
    have e2 : gBools (fun bs => VI.D.bl (bs.all id)) S [.lst (w.cps.toList.map fun c => .bl (lowB c))] = some (.bl (allLow w)) := by
      rw [gBools_lst (bools_map2 _ _), List.all_map]; rfl
    have e3 : gLen S [.str w] = some (.int (w.length : Nat)) := by simp [gLen, h1]
    rw [r_42]
    by_cases l1 : 1 ≤ (w.length : Int)
    · by_cases l2 : (w.length : Int) ≤ 8
      · have l3 : 0 < w.length := by omega
        have l4 : w.length ≤ 8 := by omega
        simp [b_42, isTy, e3, l1, l2, h2, e1, e2, isW, wdB, letB, l3, l4]
      · have l4 : ¬ w.length ≤ 8 := by omega
        simp [b_42, isTy, e3, l1, l2, isW, wdB, letB, l4]
    · have l3 : ¬ 0 < w.length := by omega
      simp [b_42, isTy, e3, l1, isW, wdB, letB, l3]
  · have e0 : isS c = false := by cases c <;> first | rfl | exact absurd ⟨_, rfl⟩ hs
    have e1 : isW c = false := by cases c <;> first | rfl | exact absurd ⟨_, rfl⟩ hs
    have e2 := tr_isS (S := S) h
    rw [e0] at e2
    rw [r_42]
    simp [b_42, e2, e1]
end
theorem tr_el {n : Nat} {e : VI.D} {ys : List VI.D} (h : Tr (n + 1) e) (he : e = .lst ys ∨ e = .tup ys) : ∀ y ∈ ys, Tr n y := by
  rcases h with h | h | ⟨zs, h, _, t⟩
  · rcases he with rfl | rfl <;> cases h
  · rcases he with rfl | rfl <;> cases h
  · have : zs = ys := by rcases he with rfl | rfl <;> rcases h with h | h <;> cases h <;> rfl
    exact this ▸ t
/-- is_formula and the law's own say the same -/
theorem is_formula_tr : ∀ {n : Nat} {e : VI.D}, Tr n e → ∃ b, ∀ (S : Store) m, n + 5 ≤ m → run m 8 [e] S = .ok (.bl b) S ∧ run m 41 [e] S = .ok (.bl b) S := by
  -- what is no list, no tuple
  have noSeq : ∀ {n : Nat} {e : VI.D}, Tr n e → isSeq e = false → ∀ (S : Store) k, run (k + 3) 8 [e] S = .ok (.bl false) S ∧ run (k + 3) 41 [e] S = .ok (.bl false) S := by
    intro n e h hs S k
    have e1 := tr_isQ (S := S) h
    rw [hs] at e1
    have e2 : run (k + 1) 2 [e] S = .ok (.bl false) S := by rw [r_2]; simp [b_2, e1]
    have e3 : ∀ j, run (k + 2) 3 [e, .int j] S = .ok (.bl false) S := fun j => by rw [r_3]; simp [b_3, e2]
    constructor
    · rw [r_8]; simp [b_8, e3]
    · rw [r_41]; simp [b_41, e1]
  -- of another length
  have noLen : ∀ {e : VI.D} {ys : List VI.D}, e = .lst ys ∨ e = .tup ys → ys.length ≠ 2 → ys.length ≠ 3 → ∀ (S : Store) k, run (k + 3) 8 [e] S = .ok (.bl false) S ∧ run (k + 3) 41 [e] S = .ok (.bl false) S := by
    intro e ys he h2 h3 S k
    have sq : Sq S e ys := by rcases he with rfl | rfl; exact sq_lst; exact sq_tup
    have r2 := is_row_sq (k) sq 2
    have r3 := is_row_sq (k) sq 3
    have n2 : ¬ ((ys.length : Int) = 2) := by omega
    have n3 : ¬ ((ys.length : Int) = 3) := by omega
    constructor
    · rw [r_8]; simp [b_8, r2, r3, n2, n3]
    · have n2' : ¬ (2 = (ys.length : Int)) := by omega
      have n3' : ¬ (3 = (ys.length : Int)) := by omega
      have e2 : gIn true S (.int (ys.length : Nat)) (.tup [.int 2, .int 3]) = some (.bl true) := by simp [gIn, D.flat, D.eqv, n2', n3', BEq.beq, instBEqOfDecidableEq]
      rw [r_41]; simp [b_41, sq.isi2, sq.len, e2]
  intro n
  induction n with
  | zero =>
    intro e h
    refine ⟨false, fun S m hm => ?_⟩
    obtain ⟨k, rfl⟩ : ∃ k, m = k + 3 := Nat.exists_eq_add_of_le' (by omega)
    exact noSeq h (by cases e <;> first | rfl | cases h) S k
  | succ n ih =>
    intro e h
    by_cases hs : isSeq e = false
    · refine ⟨false, fun S m hm => ?_⟩
      obtain ⟨k, rfl⟩ : ∃ k, m = k + 3 := Nat.exists_eq_add_of_le' (by omega)
      exact noSeq h hs S k
    · obtain ⟨ys, he⟩ : ∃ ys, e = .lst ys ∨ e = .tup ys := by
        cases e <;> first | exact ⟨_, .inl rfl⟩ | exact ⟨_, .inr rfl⟩ | exact absurd rfl hs
      have hel := tr_el h he
      match ys, he, hel with
      | [a, c], he, hel =>
        have ta := hel a (by simp)
        have tc := hel c (by simp)
        refine ⟨isT2 "up" "down" a && isW c, fun S m hm => ?_⟩
        obtain ⟨k, rfl⟩ : ∃ k, m = k + 4 := Nat.exists_eq_add_of_le' (by omega)
        have sq : Sq S e [a, c] := by rcases he with rfl | rfl; exact sq_lst; exact sq_tup
        have r2 := is_row_sq (k + 1) sq 2
        have tx := is_text_tr (S := S) (k + 2) ta
        have wd := is_word_tr (S := S) k tc
        have wd2 := law_is_word_tr (S := S) (k + 2) tc
        have sa := tr_isS (S := S) ta
        have e2 : gIn true S (.int 2) (.tup [.int 2, .int 3]) = some (.bl false) := by simp [gIn, D.flat, D.eqv]
        have ln := sq.len
        simp at r2 ln
        by_cases hx : ∃ x, a = .str x
        · obtain ⟨x, rfl⟩ := hx
          have ud := in_str2 S false x "up" "down"
          simp only [Bool.false_eq_true, if_false] at ud
          show run _ _ _ _ = .ok (.bl ((decide (("up" : Str) = x) || decide (("down" : Str) = x)) && isW c)) _ ∧ run _ _ _ _ = .ok (.bl ((decide (("up" : Str) = x) || decide (("down" : Str) = x)) && isW c)) _
          generalize hp : (decide (("up" : Str) = x) || decide (("down" : Str) = x)) = p at ud ⊢
          constructor
          · rw [r_8]
            cases p <;> simp [b_8, r2, sq.ix, tx, isS, ud, wd]
          · rw [r_41]
            cases p <;> simp [b_41, sq.isi2, ln, e2, sq.ix, sa, isS, isTy, ud, wd2]
        · have hb : isS a = false := by cases a <;> first | rfl | exact absurd ⟨_, rfl⟩ hx
          have hm2 : isT2 "up" "down" a = false := by cases a <;> first | rfl | exact absurd ⟨_, rfl⟩ hx
          rw [hm2, Bool.false_and]
          rw [hb] at tx sa
          constructor
          · rw [r_8]
            simp [b_8, r2, sq.ix, tx]
          · rw [r_41]
            simp [b_41, sq.isi2, ln, e2, sq.ix, sa]
      | [a, c, d], he, hel =>
        have ta := hel a (by simp)
        obtain ⟨b1, h1⟩ := ih (hel c (by simp))
        obtain ⟨b2, h2⟩ := ih (hel d (by simp))
        refine ⟨isT2 "both" "else" a && (b1 && b2), fun S m hm => ?_⟩
        obtain ⟨k, rfl⟩ : ∃ k, m = k + 3 := Nat.exists_eq_add_of_le' (by omega)
        have sq : Sq S e [a, c, d] := by rcases he with rfl | rfl; exact sq_lst; exact sq_tup
        have r2 := is_row_sq k sq 2
        have r3 := is_row_sq k sq 3
        have tx := is_text_tr (S := S) (k + 1) ta
        have sa := tr_isS (S := S) ta
        have e2 : gIn true S (.int 3) (.tup [.int 2, .int 3]) = some (.bl false) := by simp [gIn, D.flat, D.eqv]
        have ln := sq.len
        obtain ⟨p1, q1⟩ := h1 S (k + 2) (by omega)
        obtain ⟨p2, q2⟩ := h2 S (k + 2) (by omega)
        simp at r2 r3 ln
        by_cases hx : ∃ x, a = .str x
        · obtain ⟨x, rfl⟩ := hx
          have be := in_str2 S false x "both" "else"
          have be' := in_str2 S true x "both" "else"
          simp only [Bool.false_eq_true, if_false, if_true] at be be'
          show run _ _ _ _ = .ok (.bl ((decide (("both" : Str) = x) || decide (("else" : Str) = x)) && (b1 && b2))) _ ∧ run _ _ _ _ = .ok (.bl ((decide (("both" : Str) = x) || decide (("else" : Str) = x)) && (b1 && b2))) _
          generalize hp : (decide (("both" : Str) = x) || decide (("else" : Str) = x)) = p at be be' ⊢
          constructor
          · rw [r_8]
            cases p <;> cases b1 <;> simp [b_8, r2, r3, sq.ix, tx, isS, be', p1, p2]
          · rw [r_41]
            cases p <;> cases b1 <;> simp [b_41, sq.isi2, ln, e2, sq.ix, sa, isS, isTy, be, q1, q2]
        · have hb : isS a = false := by cases a <;> first | rfl | exact absurd ⟨_, rfl⟩ hx
          have hm2 : isT2 "both" "else" a = false := by cases a <;> first | rfl | exact absurd ⟨_, rfl⟩ hx
          rw [hm2, Bool.false_and]
          rw [hb] at tx sa
          constructor
          · rw [r_8]
            simp [b_8, r2, r3, tx, sq.ix]
          · rw [r_41]
            simp [b_41, sq.isi2, ln, e2, sq.ix, sa]
      | [], he, hel => exact ⟨false, fun S m hm => by obtain ⟨k, rfl⟩ : ∃ k, m = k + 3 := Nat.exists_eq_add_of_le' (by omega); exact noLen he (by simp) (by simp) S k⟩
      | [a], he, hel => exact ⟨false, fun S m hm => by obtain ⟨k, rfl⟩ : ∃ k, m = k + 3 := Nat.exists_eq_add_of_le' (by omega); exact noLen he (by simp) (by simp) S k⟩
      | a :: c :: d :: f :: ys, he, hel => exact ⟨false, fun S m hm => by obtain ⟨k, rfl⟩ : ∃ k, m = k + 3 := Nat.exists_eq_add_of_le' (by omega); exact noLen he (by simp) (by simp) S k⟩
end K01
end

section
set_option Elab.async false
set_option linter.all false
set_option autoImplicit false
set_option maxRecDepth 100000
set_option maxHeartbeats 0
namespace K01
open PySem PySem.Spec L2 VI
section
variable {S r : Store}
/-! the law's own functions of formulas -/
theorem law_is_atom_ok (n : Nat) (φ : Fm) : run (n + 1) 39 [φ.d] S = .ok (.bl φ.isAt) S := by
  rw [r_39]
  cases φ <;> simp [b_39, Fm.d, Fm.isAt]
def turnsD : VI.D := .dct false [.str "up", .str "down", .str "both", .str "else"] [.str "down", .str "up", .str "else", .str "both"]
theorem turns_ok (S : Store) : gDictP S [.lst [.tup [.str "up", .str "down"], .tup [.str "down", .str "up"], .tup [.str "both", .str "else"], .tup [.str "else", .str "both"]]] = some turnsD := by kernel_rfl
theorem turns_sg (S : Store) (s : Bool) : gIx S turnsD (.str (sgS s)) = some (.str (sgS (!s))) := by cases s <;> kernel_rfl
theorem turns_kd (S : Store) (s : Bool) : gIx S turnsD (.str (kdS s)) = some (.str (kdS (!s))) := by cases s <;> kernel_rfl
theorem law_turned_ok : ∀ (φ : Fm) (m : Nat), φ.dep + 2 ≤ m → run m 40 [φ.d] S = .ok φ.tn.d S
  | .at s w, m, hm => by
    obtain ⟨k, rfl⟩ : ∃ k, m = k + 2 := Nat.exists_eq_add_of_le' (by omega)
    have e := law_is_atom_ok (S := S) k (.at s w)
    rw [r_40]
    simp only [Fm.d, Fm.isAt] at e ⊢
    simp [b_40, turns_ok, e, turns_sg, Fm.tn, Fm.d]
  | .nd k φ ψ, m, hm => by
    obtain ⟨n, rfl⟩ : ∃ k, m = k + 2 := Nat.exists_eq_add_of_le' (by omega)
    simp only [Fm.dep] at hm
    have e := law_is_atom_ok (S := S) n (.nd k φ ψ)
    have e1 := law_turned_ok φ (n + 1) (by omega)
    have e2 := law_turned_ok ψ (n + 1) (by omega)
    rw [r_40]
    simp only [Fm.d, Fm.isAt] at e ⊢
    simp [b_40, turns_ok, e, turns_kd, e1, e2, Fm.tn, Fm.d]
theorem law_atoms_ok : ∀ (φ : Fm) (m : Nat), φ.sz ≤ 1000 → φ.dep + 2 ≤ m → run m 43 [φ.d] S = .ok (.lst (φ.ats.map atD)) S
  | .at s w, m, hz, hm => by
    obtain ⟨k, rfl⟩ : ∃ k, m = k + 2 := Nat.exists_eq_add_of_le' (by omega)
    have e := law_is_atom_ok (S := S) k (.at s w)
    rw [r_43]
    simp only [Fm.d, Fm.isAt] at e ⊢
    simp [b_43, e, Fm.ats, atD]
  | .nd k φ ψ, m, hz, hm => by
    obtain ⟨n, rfl⟩ : ∃ k, m = k + 2 := Nat.exists_eq_add_of_le' (by omega)
    simp only [Fm.dep] at hm
    simp only [Fm.sz] at hz
    have e := law_is_atom_ok (S := S) n (.nd k φ ψ)
    have e1 := law_atoms_ok φ (n + 1) (by omega) (by omega)
    have e2 := law_atoms_ok ψ (n + 1) (by omega) (by omega)
    have hl : φ.ats.length + ψ.ats.length ≤ 16777216 := by rw [Fm.ats_len, Fm.ats_len]; omega
    rw [r_43]
    simp only [Fm.d, Fm.isAt] at e ⊢
    simp [b_43, e, e1, e2, Fm.ats, hl]
theorem foldmax (a b : Nat) : gInts gMaxL S [.lst [.int (a : Nat), .int (b : Nat)]] = some (.int ((max a b : Nat) : Int)) := by
  have : max (a : Int) (b : Int) = ((max a b : Nat) : Int) := by omega
  simp [gInts, intsD, gMaxL, this]
theorem law_depth_ok : ∀ (φ : Fm) (m : Nat), φ.dep + 2 ≤ m → run m 48 [φ.d] S = .ok (.int (φ.dep : Nat)) S
  | .at s w, m, hm => by
    obtain ⟨k, rfl⟩ : ∃ k, m = k + 2 := Nat.exists_eq_add_of_le' (by omega)
    have e := law_is_atom_ok (S := S) k (.at s w)
    rw [r_48]
    simp only [Fm.d, Fm.isAt] at e ⊢
    simp [b_48, e, Fm.dep]
  | .nd k φ ψ, m, hm => by
    obtain ⟨n, rfl⟩ : ∃ k, m = k + 2 := Nat.exists_eq_add_of_le' (by omega)
    simp only [Fm.dep] at hm
    have e := law_is_atom_ok (S := S) n (.nd k φ ψ)
    have e1 := law_depth_ok φ (n + 1) (by omega)
    have e2 := law_depth_ok ψ (n + 1) (by omega)
    have e3 : (1 : Int) + ((max φ.dep ψ.dep : Nat) : Int) = ((1 + max φ.dep ψ.dep : Nat) : Int) := by omega
    rw [r_48]
    simp only [Fm.d, Fm.isAt, Fm.dep] at e ⊢
    rw [← e3]
    simp [b_48, e, e1, e2, foldmax]
theorem law_places_ok : ∀ (φ : Fm) (m : Nat), φ.sz ≤ 1000 → φ.dep + 2 ≤ m → run m 44 [φ.d] S = .ok (.lst (φ.pls.map plD)) S
  | .at s w, m, hz, hm => by
    obtain ⟨k, rfl⟩ : ∃ k, m = k + 2 := Nat.exists_eq_add_of_le' (by omega)
    have e := law_is_atom_ok (S := S) k (.at s w)
    rw [r_44]
    simp only [Fm.d, Fm.isAt] at e ⊢
    simp [b_44, e, Fm.pls, plD]
  | .nd k φ ψ, m, hz, hm => by
    obtain ⟨n, rfl⟩ : ∃ k, m = k + 2 := Nat.exists_eq_add_of_le' (by omega)
    simp only [Fm.dep] at hm
    simp only [Fm.sz] at hz
    have e := law_is_atom_ok (S := S) n (.nd k φ ψ)
    have e1 := law_places_ok φ (n + 1) (by omega) (by omega)
    have e2 := law_places_ok ψ (n + 1) (by omega) (by omega)
    have l1 := φ.pls_len
    have l2 := ψ.pls_len
    have step : ∀ (b : Bool) (c : Nat) (f : Dl → Store → Res), (∀ x d (p : List Bool), p.length ≤ 1000 → f [x, some (plD p)] S = .ok (plD (b :: p)) S) → ∀ (ξ : Fm) (x y : Option VI.D), ξ.sz ≤ 1000 → lcD (.one 1) fYes f [x, y] (ξ.pls.map plD) S = .ok (ξ.pls.map fun p => plD (b :: p)) S :=
      fun b c f hf ξ x y hx => lc_pure _ _ _ fun p hp => ⟨[x, some (plD p)], rfl, hf x x p (by have := ξ.pls_le p hp; have := ξ.dep_sz; omega)⟩
    have hf0 : ∀ (x d : Option VI.D) (p : List Bool), p.length ≤ 1000 → ce_44_0 (run (n + 1)) [x, some (plD p)] S = .ok (plD (false :: p)) S := fun x d p hp => by
      have : 1 + p.length ≤ 16777216 := by omega
      simp [ce_44_0, plD, this, stD]
    have hf1 : ∀ (x d : Option VI.D) (p : List Bool), p.length ≤ 1000 → ce_44_1 (run (n + 1)) [x, some (plD p)] S = .ok (plD (true :: p)) S := fun x d p hp => by
      have : 1 + p.length ≤ 16777216 := by omega
      simp [ce_44_1, plD, this, stD]
    have s0 := step false 0 _ hf0 φ (some (Fm.nd k φ ψ).d) none (by omega)
    have s1 := step true 0 _ hf1 ψ (some (Fm.nd k φ ψ).d) none (by omega)
    have b1 : φ.pls.length ≤ 16777216 := by omega
    have b2 : ψ.pls.length ≤ 16777216 := by omega
    have b3 : 1 + φ.pls.length ≤ 16777216 := by omega
    have b4 : φ.pls.length + 1 + ψ.pls.length ≤ 16777216 := by omega
    rw [r_44]
    simp only [Fm.d, Fm.isAt] at e s0 s1 ⊢
    simp [b_44, e, e1, e2, s0, s1, b1, b2, b3, b4, Fm.pls, plD]
    rfl
theorem law_part_lp (rn : Nat → List VI.D → Store → Res) : ∀ (p : List Bool) (φ : Fm), φ.has p = true → ∀ (t : VI.D) (x : Option VI.D), ∃ x', forD (.one 2) (fb_45_0 rn) (p.map stD) [some φ.d, some t, x] S = .nx [some (φ.sub p).d, some t, x'] S
  | [], φ, _, t, x => ⟨x, by cases φ <;> rfl⟩
  | b :: p, .at s w, hp, t, x => by cases hp
  | b :: p, .nd k φ ψ, hp, t, x => by
    cases b with
    | true =>
      obtain ⟨x', e⟩ := law_part_lp rn p ψ hp t (some (.int 1))
      exact ⟨x', by rw [List.map_cons, forD_step rfl (δ2 := [some ψ.d, some t, some (.int 1)]) (S2 := S) (by simp [fb_45_0, stD, Fm.d]), e]; rfl⟩
    | false =>
      obtain ⟨x', e⟩ := law_part_lp rn p φ hp t (some (.int 0))
      exact ⟨x', by rw [List.map_cons, forD_step rfl (δ2 := [some φ.d, some t, some (.int 0)]) (S2 := S) (by simp [fb_45_0, stD, Fm.d]), e]; rfl⟩
theorem law_part_ok (n : Nat) (φ : Fm) (p : List Bool) (hp : φ.has p = true) : run (n + 1) 45 [φ.d, plD p] S = .ok (φ.sub p).d S := by
  obtain ⟨x', e⟩ := law_part_lp (S := S) (run n) p φ hp (plD p) none
  rw [r_45]
  simp only [plD] at e ⊢
  simp [b_45, e]
theorem plains_st : ∀ (n : Nat) (p : List Bool), D.plains n (p.map stD) = true
  | n, [] => by cases n <;> rfl
  | n, b :: p => by
    have := plains_st n p
    rw [List.map_cons]
    cases n <;> simp only [D.plains, stD, D.plain, Bool.true_and] <;> exact this
theorem eq_pl (p : List Bool) : gEq false S (plD p) (.lst []) = some (.bl p.isEmpty) := by
  have h := plains_st 63 p
  have h2 : D.plain 64 (.lst (p.map stD)) = true := h
  have h3 : D.plain 64 (.lst []) = true := rfl
  cases p with
  | nil => rfl
  | cons b p => simp only [gEq, plD, der_lst, h2, h3, Bool.and_self, if_true]; rfl
theorem law_put_ok (ψ : Fm) : ∀ (φ : Fm) (p : List Bool), φ.has p = true → ∀ m, φ.dep + 2 ≤ m → run m 46 [φ.d, plD p, ψ.d] S = .ok (φ.put p ψ).d S
  | φ, [], _, m, hm => by
    obtain ⟨k, rfl⟩ : ∃ k, m = k + 1 := Nat.exists_eq_add_of_le' (by omega)
    have e := eq_pl (S := S) []
    simp only [plD] at e ⊢
    rw [r_46]
    simp at e
    simp [b_46, e]
    cases φ <;> rfl
  | .at s w, b :: p, hp, m, hm => by cases hp
  | .nd k φ ξ, b :: p, hp, m, hm => by
    obtain ⟨n, rfl⟩ : ∃ k, m = k + 1 := Nat.exists_eq_add_of_le' (by omega)
    simp only [Fm.dep] at hm
    have e := eq_pl (S := S) (b :: p)
    cases b with
    | true =>
      have ih := law_put_ok ψ ξ p hp n (by omega)
      simp only [plD] at e ih ⊢
      rw [r_46]
      simp [stD] at e
      simp [b_46, Fm.d, Fm.put, stD, e, gSlL, cut1, ih]
    | false =>
      have ih := law_put_ok ψ φ p hp n (by omega)
      simp only [plD] at e ih ⊢
      rw [r_46]
      simp [stD] at e
      simp [b_46, Fm.d, Fm.put, stD, e, gSlL, cut1, ih]
end
end K01
end

section
set_option Elab.async false
set_option linter.all false
set_option autoImplicit false
set_option maxRecDepth 100000
set_option maxHeartbeats 0
namespace K01
open PySem PySem.Spec L2 VI
/-! bent ones -/
def hd : Fm → VI.D
  | .at s _ => .str (sgS s)
  | .nd k _ _ => .str (kdS k)
def odds (φ : Fm) : List VI.D := [.non, .int 5, .tup [], .str "up", .tup [.str "up"], .tup [.str "up", .str "a", .str "b"], .tup [.str "Up", .str "a"], .tup [.str "up", .str "A"], .tup [.str "up", .str ""], .tup [.str "up", .str "abcdefghi"], .tup [.str "up", .int 5], .tup [.str "both", φ.d], .tup [.str "both", φ.d, .non],
  .tup [.str "both", φ.d, φ.d, φ.d], .tup [.str "Both", φ.d, φ.d], .tup [.non, φ.d, φ.d], .tup [φ.d], .dct false [] [], hd φ, .tup [.str "up", .str "a1"], .tup [.str "else", .str "up", .str "a"]]
theorem odds_tr (φ : Fm) (ok : φ.ok) : ∀ x ∈ odds φ, Tr (φ.dep + 2) x := by
  have tt : ∀ ys : List VI.D, ys.length ≤ 10 → (∀ y ∈ ys, flS y = true ∨ y = φ.d) → Tr (φ.dep + 2) (.tup ys) := fun ys hl h => tr_tup (by omega) fun y hy => by
    rcases h y hy with h | rfl
    · exact tr_flat h
    · exact tr_fm φ ok
  intro x hx
  have f1 : flS (.str "up") = true := by decide +kernel
  have f2 : flS (.str "Up") = true := by decide +kernel
  have f3 : flS (.str "a") = true := by decide +kernel
  have f4 : flS (.str "b") = true := by decide +kernel
  have f5 : flS (.str "A") = true := by decide +kernel
  have f6 : flS (.str "") = true := by decide +kernel
  have f7 : flS (.str "abcdefghi") = true := by decide +kernel
  have f8 : flS (.str "both") = true := by decide +kernel
  have f9 : flS (.str "Both") = true := by decide +kernel
  have f10 : flS (.str "a1") = true := by decide +kernel
  have f11 : flS (.str "else") = true := by decide +kernel
  have f12 : ∀ i, flS (.int i) = true := fun _ => rfl
  have f13 : flS .non = true := rfl
  simp only [odds, List.mem_cons, List.not_mem_nil, or_false] at hx
  rcases hx with rfl | rfl | rfl | rfl | rfl | rfl | rfl | rfl | rfl | rfl | rfl | rfl | rfl | rfl | rfl | rfl | rfl | rfl | rfl | rfl | rfl
  case inr.inr.inr.inr.inr.inr.inr.inr.inr.inr.inr.inr.inr.inr.inr.inr.inr.inr.inl => cases φ with
    | «at» s w => exact tr_flat (by show flS (.str (sgS s)) = true; cases s <;> decide +kernel)
    | nd k l r => exact tr_flat (by show flS (.str (kdS k)) = true; cases k <;> decide +kernel)
  all_goals first
    | exact tr_flat rfl
    | exact tr_flat f1
    | exact tr_dct
    | exact tt _ (by simp) (by simp [f1, f2, f3, f4, f5, f6, f7, f8, f9, f10, f11, f12, f13])
theorem bent_ok : ∀ (φ : Fm), φ.ok → ∀ {b : Nat} {S r : Store}, St b S r → b + 3 * φ.sz < 900000 → ∀ m, φ.dep + 4 ≤ m → ∃ (e : VI.D) (S' : Store), run m 49 [.cell 1, φ.d] S = .ok e S' ∧ St (b + 3 * φ.sz) S' r ∧ Tr (φ.dep + 2) e := by
  have last : ∀ (φ : Fm), φ.ok → ∀ {b : Nat} {S S1 r : Store} (k : Nat), St b S1 r → b < 900000 →
      (fAnd (fin2 (finN (consR (fVar 1) fNil) gLen) (fCon (.int 3)) (gEq false)) (fin2 (fCall (consR (fVar 0) (consR (fCon (.int 2)) fNil)) (run (k + 2) 28)) (fCon (.int 0)) (gEq false)) [some (.cell 1), some φ.d, none] S = .ok (.bl false) S1) →
      ∃ (e : VI.D) (S' : Store), run (k + 3) 49 [.cell 1, φ.d] S = .ok e S' ∧ St (b + 1) S' r ∧ Tr (φ.dep + 2) e := by
    intro φ ok b S S1 r k h hb ht
    obtain ⟨x, S2, e, g, hx⟩ := one k (d := .lst (odds φ)) sq2_lst (by simp [odds]) (by simp [odds]) hb h
    refine ⟨x, S2, ?_, g, odds_tr φ ok x hx⟩
    have hf : gIx S1 φ.d (.int 0) = some (hd φ) := by cases φ <;> simp [Fm.d, hd]
    rw [r_49]
    unfold b_49
    rw [seq_nx (δ1 := [some (.cell 1), some φ.d, none]) (S1 := S1) (by rw [s_if, ht]; rfl) rfl]
    simp [hf, ext_lst]
    unfold odds at e
    rw [e]
    rfl
  intro φ
  induction φ with
  | «at» s w =>
    intro ok b S r h hb m hm
    obtain ⟨k, rfl⟩ : ∃ k, m = k + 3 := Nat.exists_eq_add_of_le' (by omega)
    obtain ⟨e, S', e1, g, t⟩ := last (.at s w) ok (S := S) (S1 := S) k h (by omega) (by simp [Fm.d])
    exact ⟨e, S', e1, g.le (by simp [Fm.sz]), t⟩
  | nd q φ ψ ih1 ih2 =>
    intro ok b S r h hb m hm
    obtain ⟨k, rfl⟩ : ∃ k, m = k + 3 := Nat.exists_eq_add_of_le' (by omega)
    simp only [Fm.sz] at hb ⊢
    have p1 := φ.sz_pos
    have p2 := ψ.sz_pos
    obtain ⟨d, S1, e1, h1, l1⟩ := pick (k + 1) 2 (by omega) (by omega) (by omega) h
    by_cases hz : d = 0
    · subst hz
      obtain ⟨d2, S2, e2, h2, l2⟩ := pick (k + 1) 2 (by omega) (by omega) (by omega) h1
      simp only [Fm.dep] at hm
      by_cases hz2 : d2 = 0
      · subst hz2
        obtain ⟨x, S3, e3, h3, t3⟩ := ih1 ok.1 h2 (by omega) (k + 2) (by omega)
        refine ⟨.tup [.str (kdS q), x, ψ.d], S3, ?_, h3.le (by omega), tr_tup (by simp) fun y hy => ?_⟩
        · rw [r_49]
          simp [b_49, Fm.d, e1, e2, e3]
        · simp only [List.mem_cons, List.not_mem_nil, or_false] at hy
          rcases hy with rfl | rfl | rfl
          · exact tr_flat (by cases q <;> decide +kernel)
          · exact t3.le (by simp [Fm.dep]; omega)
          · exact (tr_fm ψ ok.2).le (by simp [Fm.dep]; omega)
      · obtain ⟨x, S3, e3, h3, t3⟩ := ih2 ok.2 h2 (by omega) (k + 2) (by omega)
        have hz3 : ¬ ((d2 : Int) = 0) := by omega
        refine ⟨.tup [.str (kdS q), φ.d, x], S3, ?_, h3.le (by omega), tr_tup (by simp) fun y hy => ?_⟩
        · rw [r_49]
          simp [b_49, Fm.d, e1, e2, e3, hz2]
        · simp only [List.mem_cons, List.not_mem_nil, or_false] at hy
          rcases hy with rfl | rfl | rfl
          · exact tr_flat (by cases q <;> decide +kernel)
          · exact (tr_fm φ ok.1).le (by simp [Fm.dep]; omega)
          · exact t3.le (by simp [Fm.dep]; omega)
    · have hz3 : ¬ ((d : Int) = 0) := by omega
      obtain ⟨e, S', e2, g, t⟩ := last (.nd q φ ψ) ok (S := S) (S1 := S1) k h1 (by omega) (by simp [Fm.d, e1, hz])
      exact ⟨e, S', e2, g.le (by omega), t⟩
/-! refusals -/
section
variable {S : Store}
theorem need_no {e : VI.D} (k : Nat) (h : run k 8 [e] S = .ok (.bl false) S) : run (k + 1) 10 [e] S = .ex 1 [e] S := by
  rw [r_10]; simp [b_10, h]
theorem ask_no {e : VI.D} (k : Nat) (h : run k 8 [e] S = .ok (.bl false) S) : ∀ j, ([12, 15, 17, 18, 14, 20] : List Nat).contains j = true → run (k + 2) j [e] S = .ex 1 [e] S := by
  intro j hj
  have e1 := need_no k h
  simp only [List.contains_cons, List.contains_nil, Bool.or_false, Bool.or_eq_true, beq_iff_eq] at hj
  rcases hj with rfl | rfl | rfl | rfl | rfl | rfl
  · rw [r_12]; simp [b_12, e1]
  · rw [r_15]; simp [b_15, e1]
  · rw [r_17]; simp [b_17, e1]
  · rw [r_18]; simp [b_18, e1]
  · rw [r_14]; simp [b_14, e1]
  · rw [r_20]; simp [b_20, e1]
theorem part_no {e t : VI.D} (k : Nat) (h : run k 8 [e] S = .ok (.bl false) S) : run (k + 3) 24 [e, t] S = .ex 1 [e] S := by
  have e1 := need_no k h
  have e2 : run (k + 2) 23 [e, t] S = .ex 1 [e] S := by rw [r_23]; simp [b_23, e1]
  rw [r_24]; simp [b_24, e2]
theorem put_no {e t q : VI.D} (k : Nat) (h : run k 8 [e] S = .ok (.bl false) S) : run (k + 3) 26 [e, t, q] S = .ex 1 [e] S := by
  have e1 := need_no k h
  have e2 : run (k + 2) 23 [e, t] S = .ex 1 [e] S := by rw [r_23]; simp [b_23, e1]
  rw [r_26]; simp [b_26, e2]
@[simp] theorem look1 : toldC.lookup 1 = some ("formula" : Str) := rfl
@[simp] theorem look2 : toldC.lookup 2 = some ("part" : Str) := rfl
@[simp] theorem look3 : toldC.lookup 3 = some ("place" : Str) := rfl
theorem same_bad {r : Store} (T : Tl S r) {n : Nat} {e : VI.D} (h : Tr n e) (x y : Str) (m : Nat) (hm : n + 3 ≤ m) : run m 31 [.tup [.str x, .str y, e], .tup [.str x, .str y, e]] S = .ok (.bl true) S :=
  same_sm T (n := n + 1) (sm_tup (.cons (sm_flat rfl) (.cons (sm_flat rfl) (.cons (h.sm r) .nil))) (by simp)) m (by omega)
end
end K01
end

section
set_option Elab.async false
set_option linter.all false
set_option autoImplicit false
set_option maxRecDepth 100000
set_option maxHeartbeats 0
namespace K01
open PySem PySem.Spec L2 VI
/-! places and parts asked -/
def oddsP (p : List Bool) : List VI.D := [.non, .int 5, .lst [.int 2], .lst [.int (-1)], .lst [.bl true], .lst [.str "0"], .str "0", .lst (p.map stD ++ List.replicate 9 (.int 0)), .dct false [] []]
def oddsF (ψ : Fm) : List VI.D := [.non, .int 5, .tup [], .tup [.str "up"], .tup [.str "Up", .str "a"], .lst [ψ.d]]
theorem oddsP_tr (p : List Bool) (hp : p.length ≤ 1000) : ∀ d ∈ oddsP p, Tr 3 d := by
  intro d hd
  have f0 : flS (.str "0") = true := by decide +kernel
  simp only [oddsP, List.mem_cons, List.not_mem_nil, or_false] at hd
  rcases hd with rfl | rfl | rfl | rfl | rfl | rfl | rfl | rfl | rfl
  · exact tr_flat rfl
  · exact tr_flat rfl
  · exact tr_lst (by simp) fun y hy => by rw [List.mem_singleton] at hy; subst hy; exact tr_flat rfl
  · exact tr_lst (by simp) fun y hy => by rw [List.mem_singleton] at hy; subst hy; exact tr_flat rfl
  · exact tr_lst (by simp) fun y hy => by rw [List.mem_singleton] at hy; subst hy; exact tr_flat rfl
  · exact tr_lst (by simp) fun y hy => by rw [List.mem_singleton] at hy; subst hy; exact tr_flat f0
  · exact tr_flat f0
  · refine tr_lst (by simp; omega) fun y hy => ?_
    rcases List.mem_append.mp hy with hy | hy
    · obtain ⟨b, _, rfl⟩ := List.mem_map.mp hy
      exact tr_flat rfl
    · rw [List.eq_of_mem_replicate hy]
      exact tr_flat rfl
  · exact tr_dct
theorem oddsP_no {S r : Store} (T : Tl S r) (φ : Fm) (hd : φ.dep ≤ 8) (p : List Bool) : ∀ d ∈ oddsP p, ∀ k, run (k + 3) 21 [φ.d, d] S = .ok (.bl false) S := by
  intro d hm k
  have fo := fo_d r φ
  simp only [oddsP, List.mem_cons, List.not_mem_nil, or_false] at hm
  rcases hm with rfl | rfl | rfl | rfl | rfl | rfl | rfl | rfl | rfl
  · exact is_place_of_no (k + 1) _ _ rfl
  · exact is_place_of_no (k + 1) _ _ rfl
  · have := is_place_of_ints T k fo [2] sq2_lst
    exact this.trans (by cases φ <;> rfl)
  · have := is_place_of_ints T k fo [-1] sq2_lst
    exact this.trans (by cases φ <;> rfl)
  · exact is_place_of_one T k fo (is_number_bl k true)
  · exact is_place_of_one T k fo (is_number_str k "0")
  · exact is_place_of_no (k + 1) _ _ rfl
  · have e : p.map stD ++ List.replicate 9 (VI.D.int 0) = ((p.map fun b : Bool => if b then (1 : Int) else 0) ++ List.replicate 9 0).map .int := by
      rw [plD_ints, List.map_append, List.map_replicate]
    have := is_place_of_ints T k fo ((p.map fun b : Bool => if b then (1 : Int) else 0) ++ List.replicate 9 0) (t := .lst (p.map stD ++ List.replicate 9 (.int 0))) (by rw [e]; exact sq2_lst)
    rw [this]
    cases hq : φ.isPl ((p.map fun b : Bool => if b then (1 : Int) else 0) ++ List.replicate 9 0) with
    | false => rfl
    | true =>
      have := φ.isPl_le _ hq
      rw [List.length_append, List.length_replicate] at this
      omega
  · exact is_place_of_no (k + 1) _ _ rfl
theorem oddsF_no (S : Store) (ψ : Fm) : ∀ d ∈ oddsF ψ, ∀ k, run (k + 4) 8 [d] S = .ok (.bl false) S := by
  intro d hm k
  simp only [oddsF, List.mem_cons, List.not_mem_nil, or_false] at hm
  rcases hm with rfl | rfl | rfl | rfl | rfl | rfl <;> kernel_rfl
theorem oddsF_tr (ψ : Fm) (ok : ψ.ok) : ∀ d ∈ oddsF ψ, Tr (ψ.dep + 2) d := by
  intro d hd
  have f0 : flS (.str "up") = true := by decide +kernel
  have f1 : flS (.str "Up") = true := by decide +kernel
  have f2 : flS (.str "a") = true := by decide +kernel
  simp only [oddsF, List.mem_cons, List.not_mem_nil, or_false] at hd
  rcases hd with rfl | rfl | rfl | rfl | rfl | rfl
  · exact tr_flat rfl
  · exact tr_flat rfl
  · exact tr_tup (by simp) (by simp)
  · exact tr_tup (by simp) fun y hy => by rw [List.mem_singleton] at hy; subst hy; exact tr_flat f0
  · refine tr_tup (by simp) fun y hy => ?_
    simp only [List.mem_cons, List.not_mem_nil, or_false] at hy
    rcases hy with rfl | rfl
    · exact tr_flat f1
    · exact tr_flat f2
  · exact tr_lst (by simp) fun y hy => by rw [List.mem_singleton] at hy; subst hy; exact tr_fm ψ ok
section
variable {S r : Store}
theorem odds_lp (T : Tl S r) (n : Nat) (hn : 30 ≤ n) {φ : Fm} (ok : φ.ok) (hd : φ.dep ≤ 8) (x0 x2 x3 x4 x5 x6 x7 x8 : Option VI.D) : ∀ (L : List VI.D), (∀ d ∈ L, Tr 3 d ∧ ∀ k, run (k + 3) 21 [φ.d, d] S = .ok (.bl false) S) → ∀ x9, ∃ x9', forD (.one 9) (fb_50_0 (run n)) L [x0, some φ.d, x2, x3, x4, x5, x6, x7, x8, x9] S = .nx [x0, some φ.d, x2, x3, x4, x5, x6, x7, x8, x9'] S
  | [], _, x9 => ⟨x9, rfl⟩
  | d :: L, h, x9 => by
    obtain ⟨t, hp⟩ := h d List.mem_cons_self
    obtain ⟨x9', e⟩ := odds_lp T n hn ok hd x0 x2 x3 x4 x5 x6 x7 x8 L (fun y hy => h y (List.mem_cons_of_mem _ hy)) (some d)
    have e1 := part_of_no T (fo_d r φ) ok n (by omega) hp
    have e2 := put_at_no (q := .non) T (fo_d r φ) ok n (by omega) hp
    have e3 := same_bad T t "bad" "place" n (by omega)
    exact ⟨x9', by rw [forD_step rfl (δ2 := [x0, some φ.d, x2, x3, x4, x5, x6, x7, x8, some d]) (S2 := S) (by simp [fb_50_0, e1, e2, e3]), e]⟩
theorem odds_lp2 (T : Tl S r) (n : Nat) (hn : 30 ≤ n) {φ ψ : Fm} (ok : φ.ok) (hd : φ.dep ≤ 8) (hd2 : ψ.dep ≤ 8) (p : List Bool) (hp : φ.has p = true) (x0 x2 x3 x5 x6 x7 x8 : Option VI.D) : ∀ (L : List VI.D), (∀ d ∈ L, Tr (ψ.dep + 2) d ∧ ∀ k, run (k + 4) 8 [d] S = .ok (.bl false) S) → ∀ x9, ∃ x9', forD (.one 9) (fb_50_1 (run n)) L [x0, some φ.d, x2, x3, some (plD p), x5, x6, x7, x8, x9] S = .nx [x0, some φ.d, x2, x3, some (plD p), x5, x6, x7, x8, x9'] S
  | [], _, x9 => ⟨x9, rfl⟩
  | d :: L, h, x9 => by
    obtain ⟨t, hf⟩ := h d List.mem_cons_self
    obtain ⟨x9', e⟩ := odds_lp2 T n hn ok hd hd2 p hp x0 x2 x3 x5 x6 x7 x8 L (fun y hy => h y (List.mem_cons_of_mem _ hy)) (some d)
    have e2 := put_at_no2 (q := d) T (fo_d r φ) ok p hp sq2_lst n (by omega) hf
    have e3 := same_bad T t "bad" "part" n (by omega)
    exact ⟨x9', by rw [forD_step rfl (δ2 := [x0, some φ.d, x2, x3, some (plD p), x5, x6, x7, x8, some d]) (S2 := S) (by simp [fb_50_1, plD, e2, e3]), e]⟩
end
theorem two_words : ∀ w ∈ ([("a" : Str), ("b" : Str)] : List Str), wdB w = true := by decide +kernel
theorem parts_lp (n : Nat) (hn : 30 ≤ n) {φ : Fm} (ok : φ.ok) (hz : φ.sz ≤ 8) : ∀ (L : List VI.D) {b : Nat} {S r : Store} (x3 x4 x5 x6 x7 x8 x9 : Option VI.D), St b S r → b + 200 * L.length < 800000 →
    ∃ (δ' : Dl) (S' r' : Store), forD (.one 3) (fb_50_2 (run n)) L [some (.cell 1), some φ.d, some (.lst (φ.pls.map plD)), x3, x4, x5, x6, x7, x8, x9] S = .nx δ' S' ∧ St (b + 200 * L.length) S' r'
  | [], b, S, r, x3, x4, x5, x6, x7, x8, x9, h, _ => ⟨_, S, r, rfl, h⟩
  | d :: L, b, S, r, x3, x4, x5, x6, x7, x8, x9, h, hb => by
    simp only [List.length_cons] at hb ⊢
    have dz := φ.dep_sz
    have pz := φ.pls_len
    obtain ⟨n, rfl⟩ : ∃ k, n = k + 3 := Nat.exists_eq_add_of_le' (by omega)
    -- the place, the fresh part
    obtain ⟨pl, S1, e1, h1, hx⟩ := one (n + 1) (d := .lst (φ.pls.map plD)) sq2_lst (by intro z; have := congrArg List.length z; simp at this; rw [this] at pz; simp at pz; omega) (by simp; omega) (by omega) h
    obtain ⟨p, hp, rfl⟩ := List.mem_map.mp hx
    have hp := φ.has_pls p hp
    have hpl := φ.has_le p hp
    obtain ⟨k, S2, e2, h2, l2⟩ := pick (n + 2) 3 (by omega) (by omega) (by omega) h1
    obtain ⟨ψ, S3, e3, h3, z3, o3⟩ := draw_ok n (wd := .lst [.str "a", .str "b"]) (ws := ["a", "b"]) sq2_lst two_words (by simp) (by simp) (1 + k) (by omega) (by omega) h2 (by omega) (n + 3) (by omega)
    have dz2 := ψ.dep_sz
    have e4 := law_part_ok (S := S3) (n + 2) φ p hp
    have e5 := law_put_ok (S := S3) ψ φ p hp (n + 3) (by omega)
    -- told
    have cf := cst_fm φ (φ.dep + 1)
    have cg := cst_fm ψ (ψ.dep + 1)
    have cp := cst_pl p
    obtain ⟨d1, S4, r1, e6, h4, lo1⟩ := loose_ok (tq_fm φ (φ.dep + 1) (by omega)) h3 (by omega) (n + 3) (by omega)
    obtain ⟨d2, S5, r2, e7, h5, lo2⟩ := loose_ok (tq_pl p (by omega)) h4 (by omega) (n + 3) (by omega)
    have f1 := Lo.fo (lo1.app r2)
    have e8 := part_of_fo h5.tl f1 ok p hp lo2.ints (n + 3) (by omega)
    obtain ⟨d3, S6, r3, e9, h6, lo3⟩ := loose_ok (tq_fm φ (φ.dep + 1) (by omega)) h5 (by omega) (n + 3) (by omega)
    obtain ⟨d4, S7, r4, e10, h7, lo4⟩ := loose_ok (tq_pl p (by omega)) h6 (by omega) (n + 3) (by omega)
    obtain ⟨d5, S8, r5, e11, h8, lo5⟩ := loose_ok (tq_fm ψ (ψ.dep + 1) (by omega)) h7 (by omega) (n + 3) (by omega)
    have f3 := Lo.fo ((lo3.app r4).app r5)
    have f5 := Lo.fo lo5
    have e12 := put_at_fo h8.tl f3 ok f5 o3 p hp (lo4.app r5).ints (n + 3) (by omega)
    have T := h8.tl
    have pd := φ.put_dep ψ p
    have sd := φ.sub_dep p
    have sm : Sm (r ++ r1 ++ r2 ++ r3 ++ r4 ++ r5) (φ.dep + ψ.dep + 2) (.lst [(φ.sub p).d, (φ.put p ψ).d]) (.lst [(φ.sub p).d, (φ.put p ψ).d]) :=
      sm_lst (.cons ((sm_fm _ _).le (by omega)) (.cons ((sm_fm _ _).le (by omega)) .nil)) (by simp)
    have e13 := same_sm T sm (n + 3) (by omega)
    have e14 := part_of_fo T (fo_d _ φ) ok p hp (t := plD p) sq2_lst (n + 3) (by omega)
    have e15 := put_at_fo T (fo_d _ φ) ok (fo_d _ ψ) o3 p hp (t := plD p) sq2_lst (n + 3) (by omega)
    obtain ⟨x9', e16⟩ := odds_lp T (n + 3) hn ok (by omega) (some (.cell 1)) (some (.lst (φ.pls.map plD))) (some d) (some (plD p)) (some ψ.d) (some (φ.sub p).d) (some (φ.put p ψ).d) (some (.lst [(φ.sub p).d, (φ.put p ψ).d])) (oddsP p) (fun d hd => ⟨oddsP_tr p (by omega) d hd, oddsP_no T φ (by omega) p d hd⟩) x9
    obtain ⟨x9'', e17⟩ := odds_lp2 T (n + 3) hn (ψ := ψ) ok (by omega) (by omega) p hp (some (.cell 1)) (some (.lst (φ.pls.map plD))) (some d) (some ψ.d) (some (φ.sub p).d) (some (φ.put p ψ).d) (some (.lst [(φ.sub p).d, (φ.put p ψ).d])) (oddsF ψ) (fun d hd => ⟨oddsF_tr ψ o3 d hd, oddsF_no _ ψ d hd⟩) x9'
    have step : fb_50_2 (run (n + 3)) [some (.cell 1), some φ.d, some (.lst (φ.pls.map plD)), some d, x4, x5, x6, x7, x8, x9] S = .nx [some (.cell 1), some φ.d, some (.lst (φ.pls.map plD)), some d, some (plD p), some ψ.d, some (φ.sub p).d, some (φ.put p ψ).d, some (.lst [(φ.sub p).d, (φ.put p ψ).d]), x9''] S8 := by
      unfold fb_50_2
      simp at e3
      refine seq_nx (δ1 := [some (.cell 1), some φ.d, some (.lst (φ.pls.map plD)), some d, some (plD p), some ψ.d, x6, x7, x8, x9]) (S1 := S3) (by simp [e1, e2, e3]) ?_
      refine seq_nx (δ1 := [some (.cell 1), some φ.d, some (.lst (φ.pls.map plD)), some d, some (plD p), some ψ.d, some (φ.sub p).d, some (φ.put p ψ).d, x8, x9]) (S1 := S3) (by simp [e4, e5]) ?_
      refine seq_nx (δ1 := [some (.cell 1), some φ.d, some (.lst (φ.pls.map plD)), some d, some (plD p), some ψ.d, some (φ.sub p).d, some (φ.put p ψ).d, some (.lst [(φ.sub p).d, (φ.put p ψ).d]), x9]) (S1 := S8) (by simp [e6, e7, e8, e9, e10, e11, e12]) ?_
      refine seq_nx (δ1 := [some (.cell 1), some φ.d, some (.lst (φ.pls.map plD)), some d, some (plD p), some ψ.d, some (φ.sub p).d, some (φ.put p ψ).d, some (.lst [(φ.sub p).d, (φ.put p ψ).d]), x9]) (S1 := S8) (by simp [e13]) ?_
      refine seq_nx (δ1 := [some (.cell 1), some φ.d, some (.lst (φ.pls.map plD)), some d, some (plD p), some ψ.d, some (φ.sub p).d, some (φ.put p ψ).d, some (.lst [(φ.sub p).d, (φ.put p ψ).d]), x9]) (S1 := S8) (by simp [e13, e14, e15]) ?_
      have g9 : gRep S8 (.lst [.int 0]) (.int 9) = some (.lst (List.replicate 9 (.int 0))) := rfl
      have gc : ∀ S, gCat S (plD p) (.lst [VI.D.int 0, .int 0, .int 0, .int 0, .int 0, .int 0, .int 0, .int 0, .int 0]) = some (.lst (p.map stD ++ [VI.D.int 0, .int 0, .int 0, .int 0, .int 0, .int 0, .int 0, .int 0, .int 0])) := fun S => by rw [plD, cat_of rfl rfl (by simp; omega)]
      refine seq_nx (for_nx (items := oddsP p) (S1 := S8) (by simp [g9, gc, oddsP]) e16) ?_
      refine seq_nx (for_nx (items := oddsF ψ) (S1 := S8) (by simp [oddsF]) e17) rfl
    obtain ⟨δ', S', r', e18, h9⟩ := parts_lp (n + 3) hn ok hz L (some d) (some (plD p)) (some ψ.d) (some (φ.sub p).d) (some (φ.put p ψ).d) (some (.lst [(φ.sub p).d, (φ.put p ψ).d])) x9'' (h8.le (b' := b + 200) (by omega)) (by omega)
    exact ⟨δ', S', r', by rw [forD_step rfl step, e18], h9.le (by omega)⟩
theorem parts_asked_ok (n : Nat) (hn : 30 ≤ n) {φ : Fm} (ok : φ.ok) (hz : φ.sz ≤ 8) {b : Nat} {S r : Store} (h : St b S r) (hb : b < 700000) : ∃ (S' r' : Store), run (n + 1) 50 [.cell 1, φ.d] S = .ok (.bl true) S' ∧ St (b + 800) S' r' := by
  have dz := φ.dep_sz
  have e1 := law_places_ok (S := S) φ n (by omega) (by omega)
  obtain ⟨δ', S', r', e2, h2⟩ := parts_lp n hn ok hz [.int 0, .int 1, .int 2, .int 3] none none none none none none none h (by simp; omega)
  have er : rngD 0 4 = [.int 0, .int 1, .int 2, .int 3] := rfl
  refine ⟨S', r', ?_, h2.le (by simp)⟩
  rw [r_50]
  simp [b_50, e1, er, e2]
end K01
end

section
set_option Elab.async false
set_option linter.all false
set_option autoImplicit false
set_option maxRecDepth 100000
set_option maxHeartbeats 0
namespace K01
open PySem PySem.Spec L2 VI
/-! the law -/
theorem cell_of {r : Store} {c : Nat} {xs : List VI.D} (h : derR r (.cell c) = .lst xs) : ∃ c', c = c' + 2 ∧ r[c']? = some (.lst xs) := by
  match c with
  | 0 => cases h
  | 1 => cases h
  | c + 2 =>
    refine ⟨c, rfl, ?_⟩
    simp only [derR] at h
    cases e : r[c]? with
    | none => rw [e] at h; cases h
    | some s =>
      rw [e] at h
      cases s with
      | lst ys => cases h; rfl
      | dct t ks vs => cases h
theorem asked (n : Nat) (hn : 30 ≤ n) {b : Nat} {S r : Store} (h : St b S r) {d : VI.D} {φ : Fm} (f : Fo r d φ) (ok : φ.ok) (hz : φ.sz ≤ 8) :
    ∃ (S1 S2 S3 S4 r' : Store) (cw ca cp : Nat) (ds : List VI.D), run n 8 [d] S = .ok (.bl true) S ∧ run n 12 [d] S = .ok φ.tn.d S ∧ run n 15 [d] S = .ok (.int (φ.sz : Nat)) S1 ∧ run n 17 [d] S1 = .ok (.int (φ.dep : Nat)) S1 ∧
      run n 18 [d] S1 = .ok (.cell cw) S2 ∧ run n 14 [d] S2 = .ok (.cell ca) S3 ∧ run n 20 [d] S3 = .ok (.cell cp) S4 ∧ St b S4 (r ++ r') ∧ derR (r ++ r') (.cell cw) = .lst ((unl (φ.ats.map Prod.snd)).map .str) ∧ derR (r ++ r') (.cell ca) = .lst (φ.ats.map atD) ∧ derR (r ++ r') (.cell cp) = .lst ds ∧ All2 (PlR (r ++ r')) ds φ.pls := by
  have dz := φ.dep_sz
  have e1 := is_formula_fo h.tl f ok n (by omega)
  have e2 := turned_fo h.tl f ok n (by omega)
  obtain ⟨n1, e3⟩ := size_of_fo h.tl f ok (by omega) n (by omega)
  have h1 := h.app n1
  have f1 := f.app n1
  have e4 := depth_of_fo h1.tl f1 ok n (by omega)
  obtain ⟨n2, cw, e5, q5⟩ := words_of_fo h1.tl f1 ok (by omega) n (by omega)
  have h2 := h1.app n2
  have f2 := f1.app n2
  obtain ⟨n3, ca, e6, q6⟩ := atoms_of_fo h2.tl f2 ok (by omega) n (by omega)
  have h3 := h2.app n3
  have f3 := f2.app n3
  obtain ⟨n4, cp, ds, e7, q7, a7⟩ := places_of_fo h3.tl f3 ok (by omega) n (by omega)
  have h4 := h3.app n4
  refine ⟨_, _, _, _, n1 ++ n2 ++ n3 ++ n4, cw, ca, cp, ds, e1, e2, e3, e4, e5, e6, e7, ?_, ?_, ?_, ?_, ?_⟩
  · simpa [List.append_assoc] using h4
  · simpa [List.append_assoc] using derR_app n4 (derR_app n3 q5 (by simp)) (by simp)
  · simpa [List.append_assoc] using derR_app n4 q6 (by simp)
  · simpa [List.append_assoc] using q7
  · simpa [List.append_assoc] using a7
theorem sm_words {r : Store} (k : Nat) {d : VI.D} {ws : List Str} (h : derR r d = .lst (ws.map .str)) (hl : ws.length ≤ 1000) : Sm r (k + 1) d (.lst (ws.map .str)) :=
  .inr ⟨_, _, .inl ⟨h, rfl⟩, by simp; omega, All2.mapL _ fun w _ => sm_flat rfl⟩
theorem sm_atoms {r : Store} (k : Nat) {d : VI.D} {as : List (Bool × Str)} (h : derR r d = .lst (as.map atD)) (hl : as.length ≤ 1000) : Sm r (k + 2) d (.lst (as.map atD)) :=
  .inr ⟨_, _, .inl ⟨h, rfl⟩, by simp; omega, All2.mapL _ fun w _ => sm_tup (.cons (sm_flat rfl) (.cons (sm_flat rfl) .nil)) (by simp)⟩
theorem All2.mapR {α β γ : Type} {R : α → γ → Prop} {g : β → γ} : ∀ {as : List α} {bs : List β}, All2 (fun a b => R a (g b)) as bs → All2 R as (bs.map g)
  | _, _, .nil => .nil
  | _, _, .cons r t => .cons r (All2.mapR t)
theorem All2.imp' {α β : Type} {R R' : α → β → Prop} : ∀ {as : List α} {bs : List β}, (∀ a b, b ∈ bs → R a b → R' a b) → All2 R as bs → All2 R' as bs
  | _, _, _, .nil => .nil
  | _, _, h, .cons r t => .cons (h _ _ List.mem_cons_self r) (All2.imp' (fun a b hb => h a b (List.mem_cons_of_mem _ hb)) t)
theorem sm_places {r : Store} (k : Nat) {d : VI.D} {ds : List VI.D} {ps : List (List Bool)} (h : derR r d = .lst ds) (a : All2 (PlR r) ds ps) (hl : ps.length ≤ 1000) (hp : ∀ p ∈ ps, p.length ≤ 1000) : Sm r (k + 2) d (.lst (ps.map plD)) :=
  .inr ⟨_, _, .inl ⟨h, rfl⟩, by simp; omega, All2.mapR (All2.imp' (fun a p hb z => .inr ⟨_, _, .inl ⟨z.2, rfl⟩, by have := hp p hb; simp; omega, All2.mapL _ fun w _ => sm_flat rfl⟩) a)⟩
theorem sp_words {r : Store} {d : VI.D} {ws : List Str} {c : Nat} (hd : d = .cell c) (h : derR r d = .lst (ws.map .str)) (hl : ws.length ≤ 900) : Ce1 900 r d := by
  subst hd
  obtain ⟨c', rfl, e⟩ := cell_of h
  exact .inr ⟨c', _, rfl, e, fun x hx => by obtain ⟨w, _, rfl⟩ := List.mem_map.mp hx; exact .inl rfl, by simpa⟩
theorem sp_atoms {r : Store} {c : Nat} {as : List (Bool × Str)} (h : derR r (.cell c) = .lst (as.map atD)) (hl : as.length ≤ 900) : Ce1 900 r (.cell c) := by
  obtain ⟨c', rfl, e⟩ := cell_of h
  exact .inr ⟨c', _, rfl, e, fun x hx => by
    obtain ⟨w, _, rfl⟩ := List.mem_map.mp hx
    refine .inr ⟨_, rfl, fun x hx => ?_⟩
    simp only [List.mem_cons, List.not_mem_nil, or_false] at hx
    rcases hx with rfl | rfl <;> rfl, by simpa⟩
theorem pl_cell {r : Store} {d : VI.D} {p : List Bool} (h : PlR r d p) (hp : p.length ≤ 900) : Ce1 900 r d := by
  obtain ⟨⟨c, rfl⟩, h⟩ := h
  obtain ⟨c', rfl, e⟩ := cell_of h
  exact .inr ⟨c', _, rfl, e, fun x hx => by obtain ⟨b, _, rfl⟩ := List.mem_map.mp hx; exact .inl rfl, by simpa⟩
theorem told_sm {r : Store} {φ : Fm} (hz : φ.sz ≤ 8) {cw ca cp : Nat} {ds : List VI.D} (h1 : derR r (.cell cw) = .lst ((unl (φ.ats.map Prod.snd)).map .str)) (h2 : derR r (.cell ca) = .lst (φ.ats.map atD)) (h3 : derR r (.cell cp) = .lst ds) (h4 : All2 (PlR r) ds φ.pls) :
    Sm r (φ.dep + 4) (.lst [.bl true, φ.tn.d, .int (φ.sz : Nat), .int (φ.dep : Nat), .cell cw, .cell ca, .cell cp]) (.lst [.bl true, φ.tn.d, .int (φ.sz : Nat), .int (φ.dep : Nat), .lst ((unl (φ.ats.map Prod.snd)).map .str), .lst (φ.ats.map atD), .lst (φ.pls.map plD)]) := by
  have dz := φ.dep_sz
  have pz := φ.pls_len
  have az := φ.ats_len
  have uz := unl_len (φ.ats.map Prod.snd)
  rw [List.length_map] at uz
  refine sm_lst (.cons (sm_flat rfl) (.cons ?_ (.cons (sm_flat rfl) (.cons (sm_flat rfl) (.cons ?_ (.cons ?_ (.cons ?_ .nil))))))) (by simp)
  · exact (sm_fm r φ.tn).le (by rw [Fm.tn_dep]; omega)
  · exact (sm_words (r := r) (φ.dep + 2) h1 (by omega))
  · exact (sm_atoms (φ.dep + 1) h2 (by omega))
  · exact (sm_places (φ.dep + 1) h3 h4 (by omega) fun p hp => by have := φ.pls_le p hp; omega)
theorem cut4 (S : Store) (a b c d e f g : VI.D) : gSlL S (.lst [a, b, c, d, e, f, g]) (some 4) none = some (.lst [e, f, g]) := rfl
/-! the words, chosen -/
theorem unlike_ok (rn : Nat → List VI.D → Store → Res) (S : Store) (as : List (Bool × Str)) (hl : as.length ≤ 1000) (x0 x1 x2 x3 x4 x5 x7 x8 x9 x10 x11 x12 x13 x14 x15 : Option VI.D) :
    lcD (.one 11) (cc_51_0 rn) (ce_51_1 rn) [x0, x1, x2, x3, x4, x5, some (.lst (as.map atD)), x7, x8, x9, x10, x11, x12, x13, x14, x15] (rngD 0 as.length) S = .ok ((unl (as.map Prod.snd)).map .str) S := by
  rw [← unl2_eq, rngD0]
  have key := lc_filter (t := .one 11) (cond := cc_51_0 rn) (elt := ce_51_1 rn) (δ := [x0, x1, x2, x3, x4, x5, some (.lst (as.map atD)), x7, x8, x9, x10, x11, x12, x13, x14, x15]) (S := S) (fun i : Nat => VI.D.int (i : Nat)) (fun k => .str ((as.map Prod.snd).getD k ("" : Str))) (fun k => !decide ((as.map Prod.snd).getD k ("" : Str) ∈ (as.map Prod.snd).take k)) (List.range as.length) fun k hk => by
    have hk := List.mem_range.mp hk
    refine ⟨[x0, x1, x2, x3, x4, x5, some (.lst (as.map atD)), x7, x8, x9, x10, some (.int (k : Nat)), x12, x13, x14, x15], rfl, ?_, ?_⟩
    · have a1 : atI (as.map atD) (k : Nat) = some (atD as[k]) := ixn (by rw [List.getElem?_map, List.getElem?_eq_getElem hk]; rfl)
      have a2 : gSlL S (.lst (as.map atD)) none (some (k : Nat)) = some (.lst ((as.take k).map atD)) := by
        have := cutTake (as.map atD) k (by simp; omega)
        simp only [gSlL, der_lst, this, List.map_take]
      have a3 : ∀ x15, lcD (.one 15) fYes (ce_51_0 rn) [x0, x1, x2, x3, x4, x5, some (.lst (as.map atD)), x7, x8, x9, x10, some (.int (k : Nat)), x12, x13, x14, x15] ((as.take k).map atD) S = .ok ((as.take k).map fun a => VI.D.str a.2) S := fun x15 =>
        lc_pure atD (fun a => VI.D.str a.2) _ fun a _ => ⟨_, rfl, by simp [ce_51_0, atD]⟩
      have a4 : ((as.take k).map fun a => VI.D.str a.2) = ((as.map Prod.snd).take k).map .str := by rw [← List.map_take, List.map_map]; rfl
      have a5 : (as.map Prod.snd).getD k ("" : Str) = as[k].2 := by simp [List.getD, hk]
      have a6 := in_strs S true as[k].2 (d := .lst (((as.map Prod.snd).take k).map .str)) (ws := (as.map Prod.snd).take k) rfl
      have a7 : (as.take k).length ≤ 16777216 := by rw [List.length_take]; omega
      have a8 : k ≤ 16777216 := by omega
      rw [a5]
      unfold cc_51_0
      have b1 : gIx S (atD as[k]) (.int 1) = some (.str as[k].2) := by simp [atD]
      have b2 : ((as.take k).map atD).length ≤ 16777216 := by simp; omega
      rw [a4] at a3
      simp only [e_fin2, e_var, e_lc, e_itF, e_sl, e_part0, e_part1, e_con, List.getElem?_cons_succ, List.getElem?_cons_zero, ix_lst, a1, e_opt, b1, a2, seqIt_lst, if_pos b2, a3, a6, if_true]
    · have a1 : atI (as.map atD) (k : Nat) = some (atD as[k]) := ixn (by rw [List.getElem?_map, List.getElem?_eq_getElem hk]; rfl)
      have a5 : (as.map Prod.snd).getD k ("" : Str) = as[k].2 := by simp [List.getD, hk]
      rw [a5]
      unfold ce_51_1
      simp [a1, atD]
  rw [key, unl2, List.length_map, List.map_map]
  rfl
end K01
end

section
set_option Elab.async false
set_option linter.all false
set_option autoImplicit false
set_option maxRecDepth 100000
set_option maxHeartbeats 0
namespace K01
open PySem PySem.Spec L2 VI
abbrev O := Option VI.D
section
variable {S r : Store}
theorem ask_lp (T : Tl S r) (n : Nat) (hn : 2 ≤ n) {e : VI.D} {k : Nat} (t : Tr k e) (hk : k + 3 ≤ n) (hf : run (n - 2) 8 [e] S = .ok (.bl false) S) (x0 x1 x2 x3 x4 x5 x6 x7 x8 x9 x10 x11 x15 : O) : ∀ (js : List Nat), (∀ j ∈ js, ([12, 15, 17, 18, 14, 20] : List Nat).contains j = true) → ∀ x14, ∃ x14', forD (.one 14) (fb_51_0 (run n)) (js.map .fn) [x0, x1, x2, x3, x4, x5, x6, x7, x8, x9, x10, x11, some e, some (.bl false), x14, x15] S = .nx [x0, x1, x2, x3, x4, x5, x6, x7, x8, x9, x10, x11, some e, some (.bl false), x14', x15] S
  | [], _, x14 => ⟨x14, rfl⟩
  | j :: js, h, x14 => by
    obtain ⟨x14', e1⟩ := ask_lp T n hn t hk hf x0 x1 x2 x3 x4 x5 x6 x7 x8 x9 x10 x11 x15 js (fun j hj => h j (List.mem_cons_of_mem _ hj)) (some (.fn j))
    have hj := h j List.mem_cons_self
    have e2 := ask_no (n - 2) hf j hj
    rw [show n - 2 + 2 = n by omega] at e2
    have e3 := same_bad T t "bad" "formula" n hk
    have l3 : (0 + 1 + 1 + 1 : Nat) ≤ 16777216 := by omega
    refine ⟨x14', ?_⟩
    rw [List.map_cons, forD_step rfl (δ2 := [x0, x1, x2, x3, x4, x5, x6, x7, x8, x9, x10, x11, some e, some (.bl false), some (.fn j), x15]) (S2 := S) ?_, e1]
    unfold fb_51_0
    simp only [List.set_cons_succ, List.set_cons_zero, s_seq, s_if, e_and, e_fin1, e_var, List.getElem?_cons_succ, List.getElem?_cons_zero, e_not, Bool.not_false, e_opt, e_call, e_cons, e_told, e_callV, hj, if_true, e_nil, e2, look1, e_tup, e_con, List.length_cons, List.length_nil, if_pos l3, e3, Bool.not_true, s_nil]
end
theorem bent_lp (n : Nat) (hn : 40 ≤ n) {φ : Fm} (ok : φ.ok) (hz : φ.sz ≤ 8) (x0 x2 x3 x5 x6 x7 x8 x9 x10 x15 : O) : ∀ (L : List VI.D) {b : Nat} {S r : Store} (x11 x12 x13 x14 : O), St b S r → b + 30 * L.length < 800000 →
    ∃ (x11' x12' x13' x14' : O) (S' : Store), forD (.one 11) (fb_51_1 (run n)) L [x0, some (.cell 1), x2, x3, some φ.d, x5, x6, x7, x8, x9, x10, x11, x12, x13, x14, x15] S = .nx [x0, some (.cell 1), x2, x3, some φ.d, x5, x6, x7, x8, x9, x10, x11', x12', x13', x14', x15] S' ∧ St (b + 30 * L.length) S' r
  | [], b, S, r, x11, x12, x13, x14, h, _ => ⟨x11, x12, x13, x14, S, rfl, h⟩
  | d :: L, b, S, r, x11, x12, x13, x14, h, hb => by
    simp only [List.length_cons] at hb ⊢
    have dz := φ.dep_sz
    obtain ⟨e, S1, e1, h1, t⟩ := bent_ok φ ok h (by omega) n (by omega)
    obtain ⟨q, hq⟩ := is_formula_tr t
    have T := h1.tl
    have e2 := (hq S1 n (by omega)).2
    have e3 := (hq S1 n (by omega)).1
    have e4 := copy_sm T (t.sm r) n (by omega)
    have e5 := same_sm T (n := 0) (d := .bl q) (e := .bl q) ⟨rfl, rfl⟩ n (by omega)
    have step : ∃ x14', fb_51_1 (run n) [x0, some (.cell 1), x2, x3, some φ.d, x5, x6, x7, x8, x9, x10, some d, x12, x13, x14, x15] S = .nx [x0, some (.cell 1), x2, x3, some φ.d, x5, x6, x7, x8, x9, x10, some d, some e, some (.bl q), x14', x15] S1 := by
      cases q with
      | true =>
        refine ⟨some (.fn 20), ?_⟩
        simp [fb_51_1, e1, e2, e3, e4, e5, forD_cons, fb_51_0]
      | false =>
        obtain ⟨x14', e6⟩ := ask_lp T n (by omega) t (by omega) (hq S1 (n - 2) (by omega)).1 x0 (some (.cell 1)) x2 x3 (some φ.d) x5 x6 x7 x8 x9 x10 (some d) x15 [12, 15, 17, 18, 14, 20] (by simp) x14
        have e7 := part_no (t := .non) (n - 3) (hq S1 (n - 3) (by omega)).1
        have e8 := put_no (t := .non) (q := .non) (n - 3) (hq S1 (n - 3) (by omega)).1
        rw [show n - 3 + 3 = n by omega] at e7 e8
        have e9 := same_bad T t "bad" "formula" n (by omega)
        refine ⟨x14', ?_⟩
        unfold fb_51_1
        refine seq_nx (δ1 := [x0, some (.cell 1), x2, x3, some φ.d, x5, x6, x7, x8, x9, x10, some d, some e, x13, x14, x15]) (S1 := S1) (by simp [e1]) ?_
        refine seq_nx (δ1 := [x0, some (.cell 1), x2, x3, some φ.d, x5, x6, x7, x8, x9, x10, some d, some e, some (.bl false), x14, x15]) (S1 := S1) (by simp [e2]) ?_
        refine seq_nx (δ1 := [x0, some (.cell 1), x2, x3, some φ.d, x5, x6, x7, x8, x9, x10, some d, some e, some (.bl false), x14, x15]) (S1 := S1) (by simp [e3, e4, e5]) ?_
        refine seq_nx (for_nx (items := [.fn 12, .fn 15, .fn 17, .fn 18, .fn 14, .fn 20]) (S1 := S1) (by simp) e6) ?_
        refine seq_nx (δ1 := [x0, some (.cell 1), x2, x3, some φ.d, x5, x6, x7, x8, x9, x10, some d, some e, some (.bl false), x14', x15]) (S1 := S1) (by simp [e7, e9]) ?_
        refine seq_nx (δ1 := [x0, some (.cell 1), x2, x3, some φ.d, x5, x6, x7, x8, x9, x10, some d, some e, some (.bl false), x14', x15]) (S1 := S1) (by simp [e8, e9]) rfl
    obtain ⟨x14', e6⟩ := step
    obtain ⟨y11, y12, y13, y14, S2, e7, h2⟩ := bent_lp n hn ok hz x0 x2 x3 x5 x6 x7 x8 x9 x10 x15 L (some d) (some e) (some (.bl q)) x14' (h1.le (b' := b + 30) (by omega)) (by omega)
    exact ⟨y11, y12, y13, y14, S2, by rw [forD_step rfl e6, e7], h2.le (by omega)⟩
theorem turn_step (n : Nat) (hn : 45 ≤ n) (x0 : O) (d : VI.D) {b : Nat} {S r : Store} (x2 x3 x4 x5 x6 x7 x8 x9 x10 x11 x12 x13 x14 x15 : O) (h : St b S r) (hb : b < 590000) :
    ∃ (y2 y3 y4 y5 y6 y7 y8 y9 y10 y11 y12 y13 y14 y15 : O) (S' r' : Store), fb_51_2 (run n) [x0, some (.cell 1), some d, x3, x4, x5, x6, x7, x8, x9, x10, x11, x12, x13, x14, x15] S = .nx [x0, some (.cell 1), y2, y3, y4, y5, y6, y7, y8, y9, y10, y11, y12, y13, y14, y15] S' ∧ St (b + 3000) S' r' := by
  obtain ⟨n, rfl⟩ : ∃ k, n = k + 5 := Nat.exists_eq_add_of_le' (by omega)
  obtain ⟨S1, ws, e1, h1, w1, w2, w3⟩ := word_set_ok (n + 2) 3 (by omega) (by omega) (by omega) h
  obtain ⟨k, S2, e2, h2, l2⟩ := pick (n + 4) 8 (by omega) (by omega) (by omega) h1
  have hwd : Sq2 (r ++ [Cell.lst (ws.map .str)]) (.cell (r.length + 2)) (ws.map .str) := sq2_new
  obtain ⟨φ, S3, e3, h3, z3, ok⟩ := draw_ok (n + 2) hwd w1 w2 (by omega) (1 + k) (by omega) (by omega) h2 (by omega) (n + 5) (by omega)
  have hz : φ.sz ≤ 8 := by omega
  have dz := φ.dep_sz
  have az := φ.ats_len
  have cf := cst_fm φ (φ.dep + 1)
  obtain ⟨d1, S4, r1, e4, h4, lo1⟩ := loose_ok (tq_fm φ (φ.dep + 1) (by omega)) h3 (by omega) (n + 5) (by omega)
  have e5 := law_atoms_ok (S := S4) φ (n + 5) (by omega) (by omega)
  obtain ⟨kept, smk⟩ := lo1.sm
  have e6 := copy_sm h4.tl smk (n + 5) (by omega)
  obtain ⟨S5, S6, S7, S8, r2, cw, ca, cp, ds, f1, f2, f3, f4, f5, f6, f7, h8, q1, q2, q3, a3⟩ := asked (n + 5) (by omega) h4 (Lo.fo lo1) ok hz
  have T8 := h8.tl
  have e7 := unlike_ok (run (n + 5)) S8 φ.ats (by omega) x0 (some (.cell 1)) (some d) (some (.cell (r.length + 2))) (some φ.d) (some d1) (some kept) (some (.lst [.bl true, φ.tn.d, .int (φ.sz : Nat), .int (φ.dep : Nat), .cell cw, .cell ca, .cell cp])) x9 x10 x11 x12 x13 x14 x15
  have e8 := law_turned_ok (S := S8) φ (n + 5) (by omega)
  have e9 := law_depth_ok (S := S8) φ (n + 5) (by omega)
  have e10 := law_places_ok (S := S8) φ (n + 5) (by omega) (by omega)
  have sm1 := told_sm hz q1 q2 q3 a3
  have e11 := same_sm T8 sm1 (n + 5) (by omega)
  have e12 := same_sm T8 (smk.app r2) (n + 5) (by omega)
  have e13 := turned_fo T8 (fo_d _ φ) ok (n + 5) (by omega)
  have e14 := turned_fo T8 (fo_d _ φ.tn) (φ.tn_ok ok) (n + 5) (by rw [Fm.tn_dep]; omega)
  rw [Fm.tn_tn] at e14
  have e15 := same_sm T8 (sm_fm _ φ) (n + 5) (by omega)
  -- told is spoilt
  have h9 := st_new h8 (.lst [.cell cw, .cell ca, .cell cp])
  have T9 := h9.tl
  have uz := unl_len (φ.ats.map Prod.snd)
  rw [List.length_map] at uz
  have pz := φ.pls_len
  obtain ⟨cp', rfl, qp⟩ := cell_of q3
  have g1 := sp_words (c := cw) rfl (derR_app [.lst [.cell cw, .cell ca, .cell (cp' + 2)]] q1 (by simp)) (by omega)
  have g2 := sp_atoms (derR_app [.lst [.cell cw, .cell ca, .cell (cp' + 2)]] q2 (by simp)) (by omega)
  have g3 : ∀ d ∈ ds, Ce1 900 (r ++ [Cell.lst (ws.map .str)] ++ r1 ++ r2 ++ [Cell.lst [.cell cw, .cell ca, .cell (cp' + 2)]]) d := by
    have key : ∀ {ds : List VI.D} {ps : List (List Bool)}, All2 (PlR (r ++ [Cell.lst (ws.map .str)] ++ r1 ++ r2)) ds ps → (∀ p ∈ ps, p.length ≤ 900) → ∀ d ∈ ds, Ce1 900 (r ++ [Cell.lst (ws.map .str)] ++ r1 ++ r2 ++ [Cell.lst [.cell cw, .cell ca, .cell (cp' + 2)]]) d := by
      intro ds ps a
      induction a with
      | nil => intro _ d hd; cases hd
      | cons z _ ih =>
        intro hp d hd
        rcases List.mem_cons.mp hd with rfl | hd
        · exact pl_cell (z.app _) (hp _ List.mem_cons_self)
        · exact ih (fun p hq => hp p (List.mem_cons_of_mem _ hq)) d hd
    exact key a3 fun p hp => by have := φ.pls_le p hp; omega
  have hr : (r ++ [Cell.lst (ws.map .str)] ++ r1 ++ r2 ++ [Cell.lst [.cell cw, .cell ca, .cell (cp' + 2)]])[(r ++ [Cell.lst (ws.map .str)] ++ r1 ++ r2).length]? = some (.lst [.cell cw, .cell ca, .cell (cp' + 2)]) := by simp
  have qp' : (r ++ [Cell.lst (ws.map .str)] ++ r1 ++ r2 ++ [Cell.lst [.cell cw, .cell ca, .cell (cp' + 2)]])[cp']? = some (.lst ds) := by
    rw [List.getElem?_append_left (List.getElem?_eq_some_iff.mp qp).1]; exact qp
  obtain ⟨x, S10, r10, e16, h10⟩ := spoil_top n h9 hr g1 g2 qp' g3 (by rw [a3.len]; omega)
  have hl8 : S8.length = (r ++ [Cell.lst (ws.map .str)] ++ r1 ++ r2).length + 2 := T8.len
  rw [← hl8] at e16
  -- by names
  obtain ⟨S11, S12, S13, S14, r3, dw, da, dp, ds', f8, f9, f10, f11, f12, f13, f14, h14, q4, q5, q6, a6⟩ := asked (n + 5) (by omega) h10 (fo_d _ φ) ok hz
  have sm2 := told_sm hz q4 q5 q6 a6
  have e17 := same_sm h14.tl sm2 (n + 5) (by omega)
  obtain ⟨S15, r15, e18, h15⟩ := parts_asked_ok (n + 4) (by omega) ok hz h14 (by omega)
  obtain ⟨y11, y12, y13, y14, S16, e19, h16⟩ := bent_lp (n + 5) (by omega) ok hz x0 (some d) (some (.cell (r.length + 2))) (some d1) (some (.lst (φ.ats.map atD))) (some kept) (some (.lst [.bl true, φ.tn.d, .int (φ.sz : Nat), .int (φ.dep : Nat), .cell dw, .cell da])) (some (.lst ((unl (φ.ats.map Prod.snd)).map .str)))
    (some (.lst [.bl true, φ.tn.d, .int (φ.sz : Nat), .int (φ.dep : Nat), .lst ((unl (φ.ats.map Prod.snd)).map .str), .lst (φ.ats.map atD), .lst (φ.pls.map plD)])) x15 [.int 0, .int 1, .int 2, .int 3, .int 4] x11 x12 x13 x14 h15 (by simp; omega)
  have step : fb_51_2 (run (n + 5)) [x0, some (.cell 1), some d, x3, x4, x5, x6, x7, x8, x9, x10, x11, x12, x13, x14, x15] S = .nx [x0, some (.cell 1), some d, some (.cell (r.length + 2)), some φ.d, some d1, some (.lst (φ.ats.map atD)), some kept, some (.lst [.bl true, φ.tn.d, .int (φ.sz : Nat), .int (φ.dep : Nat), .cell dw, .cell da]), some (.lst ((unl (φ.ats.map Prod.snd)).map .str)),
      some (.lst [.bl true, φ.tn.d, .int (φ.sz : Nat), .int (φ.dep : Nat), .lst ((unl (φ.ats.map Prod.snd)).map .str), .lst (φ.ats.map atD), .lst (φ.pls.map plD)]), y11, y12, y13, y14, x15] S16 := by
    unfold fb_51_2
    simp at e3
    have lz : φ.ats.length ≤ 16777216 := by omega
    have lz3 : (rngD 0 φ.ats.length).length ≤ 16777216 := by rw [rngD_len]; omega
    refine seq_nx (δ1 := [x0, some (.cell 1), some d, some (.cell (r.length + 2)), x4, x5, x6, x7, x8, x9, x10, x11, x12, x13, x14, x15]) (S1 := S1) (by simp [e1]) ?_
    refine seq_nx (δ1 := [x0, some (.cell 1), some d, some (.cell (r.length + 2)), some φ.d, x5, x6, x7, x8, x9, x10, x11, x12, x13, x14, x15]) (S1 := S3) (by simp [e2, e3]) ?_
    refine seq_nx (δ1 := [x0, some (.cell 1), some d, some (.cell (r.length + 2)), some φ.d, some d1, some (.lst (φ.ats.map atD)), x7, x8, x9, x10, x11, x12, x13, x14, x15]) (S1 := S4) (by simp [e4, e5]) ?_
    refine seq_nx (δ1 := [x0, some (.cell 1), some d, some (.cell (r.length + 2)), some φ.d, some d1, some (.lst (φ.ats.map atD)), some kept, x8, x9, x10, x11, x12, x13, x14, x15]) (S1 := S4) (by simp [e6]) ?_
    refine seq_nx (δ1 := [x0, some (.cell 1), some d, some (.cell (r.length + 2)), some φ.d, some d1, some (.lst (φ.ats.map atD)), some kept, some (.lst [.bl true, φ.tn.d, .int (φ.sz : Nat), .int (φ.dep : Nat), .cell cw, .cell ca, .cell (cp' + 2)]), x9, x10, x11, x12, x13, x14, x15]) (S1 := S8) (by simp [f1, f2, f3, f4, f5, f6, f7]) ?_
    refine seq_nx (δ1 := [x0, some (.cell 1), some d, some (.cell (r.length + 2)), some φ.d, some d1, some (.lst (φ.ats.map atD)), some kept, some (.lst [.bl true, φ.tn.d, .int (φ.sz : Nat), .int (φ.dep : Nat), .cell cw, .cell ca, .cell (cp' + 2)]), some (.lst ((unl (φ.ats.map Prod.snd)).map .str)), x10, x11, x12, x13, x14, x15]) (S1 := S8) (by rw [s_asg, e_lc, rng_ok (k := φ.ats.length) (S' := S8) (by simp) lz]; simp only [if_pos lz3, e7]; rfl) ?_
    refine seq_nx (δ1 := [x0, some (.cell 1), some d, some (.cell (r.length + 2)), some φ.d, some d1, some (.lst (φ.ats.map atD)), some kept, some (.lst [.bl true, φ.tn.d, .int (φ.sz : Nat), .int (φ.dep : Nat), .cell cw, .cell ca, .cell (cp' + 2)]), some (.lst ((unl (φ.ats.map Prod.snd)).map .str)),
      some (.lst [.bl true, φ.tn.d, .int (φ.sz : Nat), .int (φ.dep : Nat), .lst ((unl (φ.ats.map Prod.snd)).map .str), .lst (φ.ats.map atD), .lst (φ.pls.map plD)]), x11, x12, x13, x14, x15]) (S1 := S8) (by simp [e8, e9, e10, az]) ?_
    refine seq_nx (δ1 := [x0, some (.cell 1), some d, some (.cell (r.length + 2)), some φ.d, some d1, some (.lst (φ.ats.map atD)), some kept, some (.lst [.bl true, φ.tn.d, .int (φ.sz : Nat), .int (φ.dep : Nat), .cell cw, .cell ca, .cell (cp' + 2)]), some (.lst ((unl (φ.ats.map Prod.snd)).map .str)),
      some (.lst [.bl true, φ.tn.d, .int (φ.sz : Nat), .int (φ.dep : Nat), .lst ((unl (φ.ats.map Prod.snd)).map .str), .lst (φ.ats.map atD), .lst (φ.pls.map plD)]), x11, x12, x13, x14, x15]) (S1 := S8) (by simp [e11, e12, e13, e14, e15]) ?_
    refine seq_nx (δ1 := [x0, some (.cell 1), some d, some (.cell (r.length + 2)), some φ.d, some d1, some (.lst (φ.ats.map atD)), some kept, some (.lst [.bl true, φ.tn.d, .int (φ.sz : Nat), .int (φ.dep : Nat), .cell cw, .cell ca, .cell (cp' + 2)]), some (.lst ((unl (φ.ats.map Prod.snd)).map .str)),
      some (.lst [.bl true, φ.tn.d, .int (φ.sz : Nat), .int (φ.dep : Nat), .lst ((unl (φ.ats.map Prod.snd)).map .str), .lst (φ.ats.map atD), .lst (φ.pls.map plD)]), x11, x12, x13, x14, x15]) (S1 := S10) (by simp [cut4, e16]) ?_
    refine seq_nx (δ1 := [x0, some (.cell 1), some d, some (.cell (r.length + 2)), some φ.d, some d1, some (.lst (φ.ats.map atD)), some kept, some (.lst [.bl true, φ.tn.d, .int (φ.sz : Nat), .int (φ.dep : Nat), .cell dw, .cell da]), some (.lst ((unl (φ.ats.map Prod.snd)).map .str)),
      some (.lst [.bl true, φ.tn.d, .int (φ.sz : Nat), .int (φ.dep : Nat), .lst ((unl (φ.ats.map Prod.snd)).map .str), .lst (φ.ats.map atD), .lst (φ.pls.map plD)]), x11, x12, x13, x14, x15]) (S1 := S13) (by simp [f8, f9, f10, f11, f12, f13]) ?_
    refine seq_nx (δ1 := [x0, some (.cell 1), some d, some (.cell (r.length + 2)), some φ.d, some d1, some (.lst (φ.ats.map atD)), some kept, some (.lst [.bl true, φ.tn.d, .int (φ.sz : Nat), .int (φ.dep : Nat), .cell dw, .cell da]), some (.lst ((unl (φ.ats.map Prod.snd)).map .str)),
      some (.lst [.bl true, φ.tn.d, .int (φ.sz : Nat), .int (φ.dep : Nat), .lst ((unl (φ.ats.map Prod.snd)).map .str), .lst (φ.ats.map atD), .lst (φ.pls.map plD)]), x11, x12, x13, x14, x15]) (S1 := S15) (by simp [f14, e17, e18]) ?_
    exact seq_nx (for_nx (items := [.int 0, .int 1, .int 2, .int 3, .int 4]) (S1 := S15) (by simp; rfl) e19) rfl
  exact ⟨_, _, _, _, _, _, _, _, _, _, _, _, _, _, S16, _, step, h16.le (by simp; omega)⟩
theorem turn_lp (n : Nat) (hn : 45 ≤ n) (x0 : O) : ∀ (L : List VI.D) {b : Nat} {S r : Store} (x2 x3 x4 x5 x6 x7 x8 x9 x10 x11 x12 x13 x14 x15 : O), St b S r → b + 3000 * L.length < 590000 →
    ∃ (δ' : Dl) (S' r' : Store), forD (.one 2) (fb_51_2 (run n)) L [x0, some (.cell 1), x2, x3, x4, x5, x6, x7, x8, x9, x10, x11, x12, x13, x14, x15] S = .nx δ' S' ∧ St (b + 3000 * L.length) S' r'
  | [], b, S, r, x2, x3, x4, x5, x6, x7, x8, x9, x10, x11, x12, x13, x14, x15, h, _ => ⟨_, S, r, rfl, h⟩
  | d :: L, b, S, r, x2, x3, x4, x5, x6, x7, x8, x9, x10, x11, x12, x13, x14, x15, h, hb => by
    simp only [List.length_cons] at hb ⊢
    obtain ⟨y2, y3, y4, y5, y6, y7, y8, y9, y10, y11, y12, y13, y14, y15, S1, r1, e1, h1⟩ := turn_step n hn x0 d x2 x3 x4 x5 x6 x7 x8 x9 x10 x11 x12 x13 x14 x15 h (by omega)
    obtain ⟨δ', S', r', e2, h2⟩ := turn_lp n hn x0 L y2 y3 y4 y5 y6 y7 y8 y9 y10 y11 y12 y13 y14 y15 h1 (by omega)
    exact ⟨δ', S', r', by rw [forD_step rfl e1, e2], h2.le (by omega)⟩
theorem law_true (ns : List Int) (hns : ns.length ≤ 63) : ∃ S', run 60 51 [.scr ns] [] = .ok (.bl true) S' := by
  obtain ⟨S1, e1, h1⟩ := st_start 58 ns hns
  obtain ⟨δ', S', r', e2, h2⟩ := turn_lp 59 (by omega) (some (.scr ns)) [.int 0, .int 1, .int 2, .int 3] none none none none none none none none none none none none none none h1 (by simp)
  refine ⟨S', ?_⟩
  have er : rngD 0 4 = [.int 0, .int 1, .int 2, .int 3] := rfl
  rw [r_51]
  simp [b_51, e1, er, e2]
end K01
end
set_option Elab.async false
set_option maxRecDepth 100000 in
set_option maxHeartbeats 0 in
theorem PySem.Challenge.cw_tiedproofs_k01_whole_formulas_holds : PySem.Challenge.rw_tiedproofs_k01_whole_formulas.Holds :=
  K01.holds_of (n := 60) (by decide) K01.law_true
