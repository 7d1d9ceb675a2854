import PyProof.Rows.All
import Wide.All
import OpenK.AllK
import Wide.FinOn
import KE.KStateDown
import Lean
import HandS.Base
import HandS.Call
import HandS.List
import HandS.Comp
import HandS.Dict
import HandS.Iter
import HandS.Text
import HandS.Ends
import HandS.More
import HandS.Exc
import HandS.Words
import HandS.WordsList
import HandS.WordsExc
import HandS.Defaults
import HandS.Star
import HandS.Walk
import HandS.Property
import HandS.Style
import HandS.IsInst
import HandS.Lambda
import HandS.TupAny
import KE.KOpsOwn
import KE.GoesMore
import KE.GoesEnum
import KE.KUnpack
import PyProof.Rows.MatchSeqLen
import HandS.Strs
import HandS.SortInts
import HandS.SetFor
import HandS.Deep
import HandS.Flt
import KE.KMinBuiltin
import HandS.SortKw
import HandS.TupSets
import HandS.TupMul
import HandS.DictComp
import HandS.SortRule
import HandS.Conv
import HandS.RaiseMore
import HandS.ExcInit
import KE.KDflt
import KE.KExcIs
import HandS.ExcField
import HandS.ExcIs
import HandS.ExcOwn
import HandS.FStr
import HandS.Small
import HandS.EndTab
import HandS.WordsDict
import HandS.ListItems
import HandS.DictTup
import PyProof.Rows.TupIter
import PyProof.CollectIter
import PyProof.MakeMany
import PyProof.Sound
import PyProof.GenRules
import HandS.GenOver
import PyProof.GenComp
import PyProof.FactsGen
import PyProof.GenObj
import HandS.GenList
import HandS.WideBits
import KE.KDictList
import HandS.ClsMeth
import HandS.HeadNt
import HandS.MethStar
import KE.KDictCopyH
import PyProof.DictTruth
import HandS.TryOnly
import HandS.ToBytes
import KE.KxField
import PyProof.Rows.StrIntSpec
import PyProof.StrOps2
import HandS.Finally
import KE.GoesRaise
import KE.KAsSuite
import PySem.Challenge.RW_rowdominoes_k06_pushes_one_after_another
import HandS.Head0
import HandS.Head1
import HandS.Head2
import HandS.HeadEnd
import HandS.HeadHook1
import HandS.HeadHook2
import HandS.HeadHook3
set_option Elab.async false
set_option linter.all false
set_option maxRecDepth 100000
set_option maxHeartbeats 4000000
namespace DL
open PySem PySem.Spec PyProof.Rows L2
/-! what the head looks at in the written part -/
def shOk (K : PySem.W.Frag) (C : Addr) (nm : String) : Bool :=
  (match PySem.W.findIn K (.ref C) (dunderR nm) with | some none => true | _ => false) && ((PySem.W.findIn K (.type "int") (PySem.dunder nm)).isSome && ((PySem.W.findIn K (.type "int") (dunderR nm)).isSome && (match PySem.W.subIn K (.type "int") (.ref C) with | some false => true | _ => false)))
def neOk (K : PySem.W.Frag) (C : Addr) : Bool :=
  (match PySem.W.findIn K (.ref C) "__ne__" with | some (some (.builtin id)) => id == "object.__ne__" | _ => false) && (match PySem.W.mroIn K C (.type "object") with | some true => true | _ => false)
def isOk (K : PySem.W.Frag) (C : Addr) : Bool :=
  (match PySem.W.findIn K (.ref C) "__class__" with | some (some (.builtin id)) => id == "object.__class__" | _ => false) && ((match PySem.W.specialIn K (.builtin "object.__class__") "__get__" with | some (some (.builtin id)) => id == "getset_descriptor.__get__" | _ => false) &&
  ((match PySem.W.takesIn K (.builtin "object.__class__") with | some true => true | _ => false) && (match PySem.W.mroIn K C (.type "object") with | some true => true | _ => false)))
/-- where the code object of the def at f stands, and its table -/
def codeA (K : PySem.W.Frag) (f : Addr) : Addr := match K.lookup f with
  | some ⟨_, _, .func fd, _⟩ => (match fd.code with | .ref c => c | _ => 0)
  | _ => 0
def tabA (K : PySem.W.Frag) (f : Addr) : Addr := match K.lookup (codeA K f) with
  | some ⟨_, _, .fields vs, _⟩ => (match (vs[11]? : Option Value) with | some (.ref P) => P | _ => 0)
  | _ => 0
def xc0B (K : PySem.W.Frag) (C : Addr) : Bool := PySem.W.excIn K C PySem.HandSPX.veTail "ValueError.__new__" && (PySem.W.keepIn K (.ref C) && (decide (PySem.W.subIn K (.ref C) (.type "BaseException") = some true) && decide (PySem.W.typeIn K (.ref C) = some (.type "type"))))
def oexB (K : PySem.W.Frag) (C : Addr) : Bool := (match K.lookup C with
  | some ⟨.type "type", _, .cls cd, sl⟩ => (match cd.mro, sl.toList with
    | .ref C' :: bm, [_, _, _, _, some (.builtin n), _] => C' == C && (n == "ValueError.__new__" && (!cd.hasDel && (cd.hasDict && PySem.HandSPX.refsVE bm)))
    | _, _ => false)
  | _ => false) && (decide (PySem.W.findIn K (.ref C) "__setattr__" = some (some (.builtin "object.__setattr__"))) && (decide (PySem.W.subIn K (.ref C) (.type "BaseException") = some true) && (decide (PySem.W.typeIn K (.ref C) = some (.type "type")) && PySem.W.keepIn K (.ref C))))
def isXB (K : PySem.W.Frag) (D : Addr) : Bool := decide (PySem.W.findIn K (.ref D) "__getattribute__" = some (some (.builtin "BaseException.__getattribute__"))) && (decide (PySem.W.findIn K (.ref D) "__getattr__" = some none) && (decide (PySem.W.subIn K (.ref D) (.type "BaseException") = some true) && (PySem.W.hasDictIn K D &&
  (decide (PySem.W.findIn K (.ref D) "__class__" = some (some (.builtin "object.__class__"))) && (decide (PySem.W.specialIn K (.builtin "object.__class__") "__get__" = some (some (.builtin "getset_descriptor.__get__"))) && (decide (PySem.W.takesIn K (.builtin "object.__class__") = some true) && decide (PySem.W.mroIn K D (.type "object") = some true)))))))
def baseB (K : PySem.W.Frag) (CS : Addr) : Bool := decide (PySem.W.specialIn K (.ref CS) "__getattribute__" = some (some (.builtin "type.__getattribute__"))) && (PySem.W.readsIn K CS (.type "type") && (match PySem.W.findCls K (.ref CS) (.type "type") "__init__" with | some (.val v) => v == .builtin "ValueError.__init__" | _ => false))
def tabB (K : PySem.W.Frag) (f : Addr) : Bool := PySem.W.codeHdIn K (codeA K f) (tabA K f)
end DL

namespace HK
open PySem PySem.W PySem.Calls PyProof.Rows He
/-! the head's facts: a list of Bools of what is looked at, and the defs at their places -/
def obsM (fa : List (Frag → Bool)) (fn : List He5.DefA) (K : Frag) : He.AlD := ((fa.all fun f => f K) && fn.all fun d => d.ok K, fn.map fun d => He5.fnA K (d.at_ K))
def valM (fn : List He5.DefA) : He.AlD := (true, fn.map He5.DefA.val)
def SaysM (fa : List (Frag → Bool)) (fn : List He5.DefA) (K : Frag) : Prop := obsM fa fn K = valM fn
section
variable {fa : List (Frag → Bool)} {fn : List He5.DefA} {K : Frag}
theorem SaysM.fact (c : SaysM fa fn K) (i : Nat) {f : Frag → Bool} (h : fa[i]? = some f) : f K = true := by
  have c1 := (ba (show ((fa.all fun f => f K) && fn.all fun d => d.ok K) = true from congrArg (fun z : He.AlD => z.1) c)).1
  exact List.all_eq_true.mp c1 f (List.mem_of_getElem? h)
theorem SaysM.def_ (c : SaysM fa fn K) (i : Nat) {d : He5.DefA} (h : fn[i]? = some d) : ∃ fd, L2.FunD K d.name d.qual d.params d.body d.scope (d.dvs K) (d.kws K) (d.at_ K) fd := by
  have c2 := (ba (show ((fa.all fun f => f K) && fn.all fun d => d.ok K) = true from congrArg (fun z : He.AlD => z.1) c)).2
  have e1 : fn.map (fun d => He5.fnA K (d.at_ K)) = fn.map He5.DefA.val := congrArg (fun z : He.AlD => z.2) c
  have e2 : (fn.map fun d => He5.fnA K (d.at_ K))[i]? = (fn.map He5.DefA.val)[i]? := by rw [e1]
  rw [List.getElem?_map, List.getElem?_map, h] at e2
  exact He5.DefA.funD (Option.some.inj e2) (List.all_eq_true.mp c2 d (List.mem_of_getElem? h))
end
/-- a property's getter -/
def pg (K : Frag) (C : Addr) (m : PySem.Str) : Addr := match recIn K (ma K C m) "property" with
  | some (.ref f :: _) => f
  | _ => 0
end HK
namespace HKT
open PySem PySem.W PySem.Calls PyProof.Rows He
/-! the head's facts where some defs make lambdas: their tables of code objects are empty and are left out of K -/
def emptyTab : Option Obj → Bool
  | some ⟨.none, none, .fields vs, sl⟩ => vs.toList.isEmpty && sl.toList.isEmpty
  | _ => false
theorem emptyTab_ok {o : Option Obj} (h : emptyTab o = true) : o = some { cls := .none, data := .fields #[] } := by
  unfold emptyTab at h
  split at h
  · rename_i vs sl
    simp only [Bool.and_eq_true, List.isEmpty_iff] at h
    obtain ⟨v⟩ := vs
    obtain ⟨s⟩ := sl
    obtain ⟨h1, h2⟩ := h
    have h1 : v = [] := h1
    have h2 : s = [] := h2
    subst h1 h2
    rfl
  · cases h
def addrs (g : Addr → Option Obj) (n : Nat) : List Addr := (He5.asA g n).filter fun a => !emptyTab (g a)
theorem lk_mem {β : Type} {a : Addr} {b : β} : ∀ {l : List (Addr × β)}, l.lookup a = some b → (a, b) ∈ l
  | [], h => by simp at h
  | (c, d) :: l, h => by
    rw [List.lookup_cons] at h
    by_cases e : a = c
    · subst e
      simp at h
      subst h
      exact .head _
    · have : (a == c) = false := beq_false_of_ne e
      rw [this] at h
      exact .tail _ (lk_mem h)
theorem look_none {g : Addr → Option Obj} {n : Nat} {P : Addr} (h : emptyTab (g P) = true) : (frG g (addrs g n)).lookup P = none := by
  cases q : (frG g (addrs g n)).lookup P with
  | none => rfl
  | some o =>
    have hm := lk_mem q
    unfold frG at hm
    obtain ⟨a, ha, e⟩ := List.mem_filterMap.mp hm
    have e2 : a = P := by
      cases q2 : g a with
      | none => rw [q2] at e; cases e
      | some o2 => rw [q2] at e; cases e; rfl
    subst e2
    have := (List.mem_filter.mp ha).2
    rw [h] at this
    cases this
def obsT (n : Nat) (fa : List (Frag → Bool)) (fn : List He5.DefA) (tb : List (Frag → Addr)) (g : Addr → Option Obj) : He.AlD :=
  ((HK.obsM fa fn (frG g (addrs g n))).1 && tb.all fun t => emptyTab (g (t (frG g (addrs g n)))), (HK.obsM fa fn (frG g (addrs g n))).2)
def Tabs (tb : List (Frag → Addr)) (K : Frag) (h : Heap) : Prop := ∀ t ∈ tb, h.get? (t K) = some { cls := .none, data := .fields #[] } ∧ K.lookup (t K) = none
def hookT (n : Nat) (fa : List (Frag → Bool)) (fn : List He5.DefA) (tb : List (Frag → Addr)) : PySem.W.Hook where
  α := He.AlD
  obs := fun s => obsT n fa fn tb s.heap.get?
  val := fun _ => HK.valM fn
  says := fun _ h => ∃ K : Frag, K.In h ∧ HK.SaysM fa fn K ∧ Tabs tb K h
  of := fun _ s e => by
    have e1 := congrArg (fun z : He.AlD => z.1) e
    have e2 := congrArg (fun z : He.AlD => z.2) e
    have e1 : ((HK.obsM fa fn (frG s.heap.get? (addrs s.heap.get? n))).1 && tb.all fun t => emptyTab (s.heap.get? (t (frG s.heap.get? (addrs s.heap.get? n))))) = true := e1
    rw [Bool.and_eq_true] at e1
    refine ⟨_, frG_in, Prod.ext e1.1 e2, fun t ht => ?_⟩
    have := List.all_eq_true.mp e1.2 t ht
    exact ⟨emptyTab_ok this, look_none this⟩
  keeps := fun _ _ _ ⟨K, hK, c, ht⟩ k => ⟨K, Frag.In.keeps hK k, c, fun t h => ⟨k _ _ (ht t h).1, (ht t h).2⟩⟩
theorem obsT_eq {n : Nat} {fa : List (Frag → Bool)} {fn : List He5.DefA} {tb : List (Frag → Addr)} {g : Addr → Option Obj} {s : Shared} (h : ∀ a, g a = s.heap.get? a) : obsT n fa fn tb g = (hookT n fa fn tb).obs s := by
  have eg : g = s.heap.get? := funext h
  rw [eg] <;> rfl
end HKT
namespace Pr
open PySem PySem.Spec PyProof.Rows L2 DL
def topS (i : Nat) : Stmt := PySem.Challenge.pw_rowdominoes_k06_pushes_one_after_another.main.body.getD i (.Pass ⟨0, 0, 0, 0⟩)
abbrev s_AlreadyFallen_init : Stmt := inClass (topS 7) 0
abbrev n_AlreadyFallen_init : List Str := ["self", "index"]
theorem sc_AlreadyFallen_init : FnScope n_AlreadyFallen_init ["self", "index"] (defScope s_AlreadyFallen_init) := ⟨rfl, rfl, rfl, by decide +kernel, rfl, by decide +kernel, by decide +kernel⟩
abbrev s_is_integer : Stmt := topS 16
abbrev n_is_integer : List Str := ["value", "low", "high"]
theorem sc_is_integer : FnScope n_is_integer ["value", "low", "high"] (defScope s_is_integer) := ⟨rfl, rfl, rfl, by decide +kernel, rfl, by decide +kernel, by decide +kernel⟩
abbrev s_is_stone : Stmt := topS 17
abbrev n_is_stone : List Str := ["value", "least", "place", "height"]
theorem sc_is_stone : FnScope n_is_stone ["value", "least"] (defScope s_is_stone) := ⟨rfl, rfl, rfl, by decide +kernel, rfl, by decide +kernel, by decide +kernel⟩
abbrev s_check_side : Stmt := topS 18
abbrev n_check_side : List Str := ["side"]
theorem sc_check_side : FnScope n_check_side ["side"] (defScope s_check_side) := ⟨rfl, rfl, rfl, by decide +kernel, rfl, by decide +kernel, by decide +kernel⟩
abbrev s_Row_init : Stmt := inClass (topS 19) 1
abbrev n_Row_init : List Str := ["self", "stones", "least", "index", "stone"]
theorem sc_Row_init : FnScope n_Row_init ["self", "stones"] (defScope s_Row_init) := ⟨rfl, rfl, rfl, by decide +kernel, rfl, by decide +kernel, by decide +kernel⟩
abbrev s_Row_len : Stmt := inClass (topS 19) 5
abbrev s_Row_check_stone : Stmt := inClass (topS 19) 7
abbrev n_Row_check_stone : List Str := ["self", "stone"]
theorem sc_Row_check_stone : FnScope n_Row_check_stone ["self", "stone"] (defScope s_Row_check_stone) := ⟨rfl, rfl, rfl, by decide +kernel, rfl, by decide +kernel, by decide +kernel⟩
abbrev s_Row_add : Stmt := inClass (topS 19) 11
abbrev n_Row_add : List Str := ["self", "other"]
theorem sc_Row_add : FnScope n_Row_add ["self", "other"] (defScope s_Row_add) := ⟨rfl, rfl, rfl, by decide +kernel, rfl, by decide +kernel, by decide +kernel⟩
abbrev s_row_of : Stmt := topS 20
abbrev n_row_of : List Str := ["stones"]
theorem sc_row_of : FnScope n_row_of ["stones"] (defScope s_row_of) := ⟨rfl, rfl, rfl, by decide +kernel, rfl, by decide +kernel, by decide +kernel⟩
abbrev s_mirrored : Stmt := topS 22
abbrev n_mirrored : List Str := ["stones", "total", "place", "height"]
theorem sc_mirrored : FnScope n_mirrored ["stones"] (defScope s_mirrored) := ⟨rfl, rfl, rfl, by decide +kernel, rfl, by decide +kernel, by decide +kernel⟩
abbrev s_right_end : Stmt := topS 23
abbrev n_right_end : List Str := ["stones", "stone", "end", "reach"]
theorem sc_right_end : FnScope n_right_end ["stones", "stone"] (defScope s_right_end) := ⟨rfl, rfl, rfl, by decide +kernel, rfl, by decide +kernel, by decide +kernel⟩
abbrev s_run_of : Stmt := topS 24
abbrev n_run_of : List Str := ["stones", "stone", "side", "last"]
theorem sc_run_of : FnScope n_run_of ["stones", "stone", "side"] (defScope s_run_of) := ⟨rfl, rfl, rfl, by decide +kernel, rfl, by decide +kernel, by decide +kernel⟩
abbrev s_check_push : Stmt := topS 26
abbrev n_check_push : List Str := ["row", "index", "push", "standing", "stone", "side"]
theorem sc_check_push : FnScope n_check_push ["row", "index", "push", "standing"] (defScope s_check_push) := ⟨rfl, rfl, rfl, by decide +kernel, rfl, by decide +kernel, by decide +kernel⟩
abbrev s_falls_by : Stmt := topS 27
abbrev n_falls_by : List Str := ["row", "pushes", "standing", "index", "push", "stone", "side", "left", "first", "last", "number"]
theorem sc_falls_by : L2.GScope n_falls_by ["row", "pushes"] (defScope s_falls_by) := ⟨rfl, rfl, rfl, by decide +kernel, rfl, by decide +kernel, by decide +kernel⟩
abbrev s_law_taken : Stmt := topS 29
abbrev n_law_taken : List Str := ["_law_row_here", "_law_many", "_law_found", "_law_cell"]
theorem sc_law_taken : FnScope n_law_taken ["_law_row_here", "_law_many"] (defScope s_law_taken) := ⟨rfl, rfl, rfl, by decide +kernel, rfl, by decide +kernel, by decide +kernel⟩
abbrev s_law_alike : Stmt := topS 30
abbrev n_law_alike : List Str := ["_law_one", "_law_due", "_law_k"]
theorem sc_law_alike : FnScope n_law_alike ["_law_one", "_law_due"] (defScope s_law_alike) := ⟨rfl, rfl, rfl, by decide +kernel, rfl, by decide +kernel, by decide +kernel⟩
abbrev s_law_raised : Stmt := topS 31
abbrev n_law_raised : List Str := ["_law_work", "e", "_law_kinds", "_law_at", "_law_word"]
theorem sc_law_raised : FnScope n_law_raised ["_law_work"] (defScope s_law_raised) := ⟨rfl, rfl, rfl, by decide +kernel, rfl, by decide +kernel, by decide +kernel⟩
abbrev s_law_stones : Stmt := topS 32
abbrev n_law_stones : List Str := ["_law_row_here", "_law_most", "_law_found", "_law_place", "_law_k"]
theorem sc_law_stones : FnScope n_law_stones ["_law_row_here", "_law_most"] (defScope s_law_stones) := ⟨rfl, rfl, rfl, by decide +kernel, rfl, by decide +kernel, by decide +kernel⟩
abbrev s_law_row : Stmt := topS 33
abbrev n_law_row : List Str := ["_law_stones_here", "_law_row_here", "_law_stone"]
theorem sc_law_row : FnScope n_law_row ["_law_stones_here"] (defScope s_law_row) := ⟨rfl, rfl, rfl, by decide +kernel, rfl, by decide +kernel, by decide +kernel⟩
abbrev s_law_fallen : Stmt := topS 34
abbrev n_law_fallen : List Str := ["_law_stones_here", "_law_standing", "_law_stone", "_law_side", "_law_found", "_law_level", "_law_tick", "_law_following", "_law_one", "_law_place", "_law_height", "_law_other", "_law_far"]
theorem sc_law_fallen : FnScope n_law_fallen ["_law_stones_here", "_law_standing", "_law_stone", "_law_side"] (defScope s_law_fallen) := ⟨rfl, rfl, rfl, by decide +kernel, rfl, by decide +kernel, by decide +kernel⟩
abbrev s_law_played : Stmt := topS 35
abbrev n_law_played : List Str := ["_law_one", "_law_pushes", "_law_found", "_law_stones_here"]
theorem sc_law_played : FnScope n_law_played ["_law_one", "_law_pushes", "_law_found"] (defScope s_law_played) := ⟨rfl, rfl, rfl, by decide +kernel, rfl, by decide +kernel, by decide +kernel⟩
abbrev s_law : Stmt := topS 36
abbrev n_law : List Str := ["_law_script", "_law_row_here", "_law_turn", "_law_stones_here", "_law_one", "_law_standing", "_law_pushes", "_law_error", "_law_due", "_law_index", "_law_stone", "_law_side", "_law_found", "_law_k"]
theorem sc_law : FnScope n_law ["_law_script"] (defScope s_law) := ⟨rfl, rfl, rfl, by decide +kernel, rfl, by decide +kernel, by decide +kernel⟩
def xcL : List Str := ["UnknownStone", "InvalidSide", "AlreadyFallen"]
def xaL : List Str := ["StoneError", "InvalidRow", "UnknownStone", "InvalidSide", "InvalidNumber", "AlreadyFallen", "OtherRow"]
def xfL : List Str := ["index"]
def kiL : List (Str × Str × Bool) := xcL.flatMap fun a => xaL.map fun b => (a, b, a == b || b == "StoneError")
/-- the defs that make lambdas -/
def ltL : List Str := ["law"]
abbrev AllTB (base : Heap) (mg : Str → Option Value) (K : PySem.W.Frag) : Prop := ∀ g ∈ ltL, LamX.TabB base mg (codeA K (He.ga K g)) (tabA K (He.ga K g))
def h_AlreadyFallen_init : He5.DefA := ⟨fun K => He.ma K (He.ga K "AlreadyFallen") "__init__", "__init__", "AlreadyFallen.__init__", defArgs s_AlreadyFallen_init, defBody s_AlreadyFallen_init, defScope s_AlreadyFallen_init, [], []⟩
def h_is_integer : He5.DefA := ⟨fun K => He.ga K "is_integer", "is_integer", "is_integer", defArgs s_is_integer, defBody s_is_integer, defScope s_is_integer, [], []⟩
def h_is_stone : He5.DefA := ⟨fun K => He.ga K "is_stone", "is_stone", "is_stone", defArgs s_is_stone, defBody s_is_stone, defScope s_is_stone, [], []⟩
def h_check_side : He5.DefA := ⟨fun K => He.ga K "check_side", "check_side", "check_side", defArgs s_check_side, defBody s_check_side, defScope s_check_side, [], []⟩
def h_Row_init : He5.DefA := ⟨fun K => He.ma K (He.ga K "Row") "__init__", "__init__", "Row.__init__", defArgs s_Row_init, defBody s_Row_init, defScope s_Row_init, [], []⟩
def h_Row_len : He5.DefA := ⟨fun K => He.ma K (He.ga K "Row") "__len__", "__len__", "Row.__len__", defArgs s_Row_len, defBody s_Row_len, defScope s_Row_len, [], []⟩
def h_Row_check_stone : He5.DefA := ⟨fun K => He.ma K (He.ga K "Row") "check_stone", "check_stone", "Row.check_stone", defArgs s_Row_check_stone, defBody s_Row_check_stone, defScope s_Row_check_stone, [], []⟩
def h_Row_add : He5.DefA := ⟨fun K => He.ma K (He.ga K "Row") "__add__", "__add__", "Row.__add__", defArgs s_Row_add, defBody s_Row_add, defScope s_Row_add, [], []⟩
def h_row_of : He5.DefA := ⟨fun K => He.ga K "row_of", "row_of", "row_of", defArgs s_row_of, defBody s_row_of, defScope s_row_of, [], []⟩
def h_mirrored : He5.DefA := ⟨fun K => He.ga K "mirrored", "mirrored", "mirrored", defArgs s_mirrored, defBody s_mirrored, defScope s_mirrored, [], []⟩
def h_right_end : He5.DefA := ⟨fun K => He.ga K "right_end", "right_end", "right_end", defArgs s_right_end, defBody s_right_end, defScope s_right_end, [], []⟩
def h_run_of : He5.DefA := ⟨fun K => He.ga K "run_of", "run_of", "run_of", defArgs s_run_of, defBody s_run_of, defScope s_run_of, [], []⟩
def h_check_push : He5.DefA := ⟨fun K => He.ga K "check_push", "check_push", "check_push", defArgs s_check_push, defBody s_check_push, defScope s_check_push, [], []⟩
def h_falls_by : He5.DefA := ⟨fun K => He.ga K "falls_by", "falls_by", "falls_by", defArgs s_falls_by, defBody s_falls_by, defScope s_falls_by, [], []⟩
def h_law_taken : He5.DefA := ⟨fun K => He.ga K "_law_taken", "_law_taken", "_law_taken", defArgs s_law_taken, defBody s_law_taken, defScope s_law_taken, [], []⟩
def h_law_alike : He5.DefA := ⟨fun K => He.ga K "_law_alike", "_law_alike", "_law_alike", defArgs s_law_alike, defBody s_law_alike, defScope s_law_alike, [], []⟩
def h_law_raised : He5.DefA := ⟨fun K => He.ga K "_law_raised", "_law_raised", "_law_raised", defArgs s_law_raised, defBody s_law_raised, defScope s_law_raised, [], []⟩
def h_law_stones : He5.DefA := ⟨fun K => He.ga K "_law_stones", "_law_stones", "_law_stones", defArgs s_law_stones, defBody s_law_stones, defScope s_law_stones, [], []⟩
def h_law_row : He5.DefA := ⟨fun K => He.ga K "_law_row", "_law_row", "_law_row", defArgs s_law_row, defBody s_law_row, defScope s_law_row, [], []⟩
def h_law_fallen : He5.DefA := ⟨fun K => He.ga K "_law_fallen", "_law_fallen", "_law_fallen", defArgs s_law_fallen, defBody s_law_fallen, defScope s_law_fallen, [], []⟩
def h_law_played : He5.DefA := ⟨fun K => He.ga K "_law_played", "_law_played", "_law_played", defArgs s_law_played, defBody s_law_played, defScope s_law_played, [], []⟩
def h_law : He5.DefA := ⟨fun K => He.ga K "law", "law", "law", defArgs s_law, defBody s_law, defScope s_law, [], []⟩
def hfn : List He5.DefA := [h_AlreadyFallen_init, h_is_integer, h_is_stone, h_check_side, h_Row_init, h_Row_len, h_Row_check_stone, h_Row_add, h_row_of, h_mirrored, h_right_end, h_run_of, h_check_push, h_falls_by, h_law_taken, h_law_alike, h_law_raised, h_law_stones, h_law_row, h_law_fallen, h_law_played, h_law]
def hfa : List (PySem.W.Frag → Bool) := [
  (fun K => (He.Fa.free "len").ok K),
  (fun K => (He.Fa.free "range").ok K),
  (fun K => (He.Fa.free "sorted").ok K),
  (fun K => (He.Fa.free "max").ok K),
  (fun K => (He.Fa.free "int").ok K),
  (fun K => (He.Fa.free "isinstance").ok K),
  (fun K => (He.Fa.free "enumerate").ok K),
  (fun K => (He.Fa.free "tuple").ok K),
  (fun K => (He.Fa.free "list").ok K),
  (fun K => (He.Fa.free "str").ok K),
  (fun K => (He.Fa.free "bool").ok K),
  (fun K => (He.Fa.free "TypeError").ok K),
  (fun K => (He.Fa.free "ValueError").ok K),
  (fun K => (He.Fa.str "LEFT" "left").ok K),
  (fun K => (He.Fa.str "RIGHT" "right").ok K),
  (fun K => (He.Fa.glo "SIDES").ok K),
  (fun K => He.tupB K "SIDES" [.str "left", .str "right"]),
  (fun K => (He.Fa.int "MAX_STONES_rows" 40).ok K),
  (fun K => (He.Fa.int "MAX_PLACE" 1000000000).ok K),
  (fun K => (He.Fa.int "MAX_HEIGHT" 1000000000).ok K),
  (fun K => (He.Fa.glo "is_integer").ok K),
  (fun K => (He.Fa.glo "is_stone").ok K),
  (fun K => (He.Fa.glo "check_side").ok K),
  (fun K => (He.Fa.meth "Row" "__init__").ok K),
  (fun K => (He.Fa.meth "Row" "__len__").ok K),
  (fun K => (He.Fa.meth "Row" "check_stone").ok K),
  (fun K => (He.Fa.meth "Row" "__add__").ok K),
  (fun K => (He.Fa.glo "row_of").ok K),
  (fun K => (He.Fa.glo "mirrored").ok K),
  (fun K => (He.Fa.glo "right_end").ok K),
  (fun K => (He.Fa.glo "run_of").ok K),
  (fun K => (He.Fa.glo "check_push").ok K),
  (fun K => (He.Fa.glo "falls_by").ok K),
  (fun K => (He.Fa.glo "_law_taken").ok K),
  (fun K => (He.Fa.glo "_law_alike").ok K),
  (fun K => (He.Fa.glo "_law_raised").ok K),
  (fun K => (He.Fa.glo "_law_stones").ok K),
  (fun K => (He.Fa.glo "_law_row").ok K),
  (fun K => (He.Fa.glo "_law_fallen").ok K),
  (fun K => (He.Fa.glo "_law_played").ok K),
  (fun K => (He.Fa.glo "law").ok K),
  (fun K => (He.Fa.glo "StoneError").ok K),
  (fun K => (He.Fa.glo "InvalidRow").ok K),
  (fun K => (He.Fa.glo "UnknownStone").ok K),
  (fun K => (He.Fa.glo "InvalidSide").ok K),
  (fun K => (He.Fa.glo "InvalidNumber").ok K),
  (fun K => (He.Fa.glo "AlreadyFallen").ok K),
  (fun K => (He.Fa.glo "OtherRow").ok K),
  (fun K => (He.Fa.glo "Row").ok K),
  (fun K => (He.Fa.cls "Row").ok K),
  (fun K => (He.Fa.mkr "Row").ok K),
  (fun K => PySem.W.selfFirst K (He.ga K "Row")),
  (fun K => neOk K (He.ga K "Row")),
  (fun K => isOk K (He.ga K "Row")),
  (fun K => shOk K (He.ga K "Row") "rshift"),
  (fun K => (He.Fa.noat "Row" "blocks").ok K),
  (fun K => xcL.all fun a => isXB K (He.ga K a)),
  (fun K => xcL.all fun a => decide (PySem.W.exmOne K (.ref (He.ga K a)) (.ref (He.ga K "StoneError")) = some true)),
  (fun K => xcL.all fun a => decide (PySem.W.subIn K (.ref (He.ga K a)) (.type "StopIteration") = some false)),
  (fun K => kiL.all fun p => decide (PySem.W.kitOne K (.ref (He.ga K p.1)) (.ref (He.ga K p.2.1)) = some p.2.2)),
  (fun K => xcL.all fun a => decide (PySem.W.kitOne K (.ref (He.ga K a)) (.type "ValueError") = some true)),
  (fun K => xcL.all fun a => xfL.all fun f => decide (PySem.W.findIn K (.ref (He.ga K a)) f = some none)),
  (fun K => baseB K (He.ga K "StoneError")),
  (fun K => xc0B K (He.ga K "UnknownStone")),
  (fun K => xc0B K (He.ga K "InvalidSide")),
  (fun K => oexB K (He.ga K "AlreadyFallen")),
  (fun K => decide (PySem.W.findIn K (.ref (He.ga K "AlreadyFallen")) "__init__" = some (some (.ref (He.ma K (He.ga K "AlreadyFallen") "__init__"))))),
  (fun K => decide (PySem.W.typeIn K (.ref (He.ma K (He.ga K "AlreadyFallen") "__init__")) = some (.type "function"))),
  (fun K => ltL.all fun g => tabB K (He.ga K g)),
  (fun K => decide (ltL.map fun g => tabA K (He.ga K g)).Nodup)]
abbrev hR : PySem.W.OpenRow := PySem.W.OpenLaw.row PySem.Challenge.rw_rowdominoes_k06_pushes_one_after_another
def htb : List (PySem.W.Frag → Addr) := ltL.map fun g K => tabA K (He.ga K g)
abbrev hhk : PySem.W.Hook := HKT.hookT 6 hfa hfn htb
def hob (s : PySem.W.SharedT) : He.AlD := HKT.obsT 6 hfa hfn htb (HandSHeadRun.getT s)
theorem hob_eq (s : PySem.W.SharedT) : hob s = hhk.obs s.abs := HKT.obsT_eq (HandSHeadRun.getT_eq s)
def hloose0 : List Str := ["_wall", "StoneError", "InvalidRow", "UnknownStone", "InvalidSide", "InvalidNumber", "AlreadyFallen", "OtherRow", "LEFT", "RIGHT", "SIDES", "MAX_STONES_rows", "MAX_PLACE", "MAX_HEIGHT", "is_integer", "is_stone", "check_side", "Row", "row_of", "moved", "mirrored", "right_end", "run_of", "check_push", "falls_by", "_law_taken", "_law_alike", "_law_raised", "_law_stones", "_law_row"]
def hloose1 : List Str := ["_law_fallen", "_law_played"]
def hloose : List Str := hloose0 ++ hloose1
theorem hrun (w : World) : HandSHeadRun.RunEq hR (PySem.W.view hR.prog [36]) hhk hob 12000 hloose w := by
  intro os
  kernel_rfl
end Pr
namespace DL
open PySem PySem.Spec PyProof.Rows L2

/-! ### plain data -/
inductive D where
  | non | bl (b : Bool) | int (i : Int) | str (x : Str) | byt (b : Array UInt8)
  | lst (ds : List D) | tup (ds : List D)
  | ins (C : Addr) (ns : List Str) (ds : List D)
  | dic (ks : List Key) (ds : List D)
  | dit (ks : List (List Key)) (ds : List D)
  | ktp (ds : List D)
  | lam (i : Nat) (φ : Hp → Addr → Prop)
  | ref (a : Addr) | ty (n : String)

def Ex (H H' : Hp) : Prop := ∀ a o, H a = some o → H' a = some o
theorem Ex.refl (H : Hp) : Ex H H := fun _ _ h => h
theorem Ex.trans {H H1 H2 : Hp} (a : Ex H H1) (b : Ex H1 H2) : Ex H H2 := fun x o h => b x o (a x o h)
theorem Ex.new {H : Hp} {p : Addr} {o : HO} (h : H p = none) : Ex H (upd H p o) := fun a u e => by
  rw [upd_ne (ne_of_none e h)]; exact e
theorem Ex.mut {H H' : Hp} {p : Addr} {o : HO} (e : Ex H H') (h : H p = none) : Ex H (upd H' p o) := fun a u ha => by
  rw [upd_ne (ne_of_none ha h)]; exact e a u ha
theorem Ex.both {H H' : Hp} {p : Addr} {o : HO} (e : Ex H H') : Ex (upd H p o) (upd H' p o) := fun a u ha => by
  by_cases h : a = p
  · subst h; rw [upd_same] at ha ⊢; exact ha
  · rw [upd_ne h] at ha ⊢; exact e a u ha
theorem Ex.back {H H' : Hp} {p : Addr} (e : Ex H H') (h : H' p = none) : H p = none := by
  cases h1 : H p with
  | none => rfl
  | some o => rw [e p o h1] at h; cases h
theorem ex_rd {H H' : Hp} {a : Addr} {u : HO} (e : Ex H H') (h : Rd H a u) : Rd H' a u := by
  rcases h with h | ⟨o, h⟩
  · exact Or.inl (e a _ h)
  · exact Or.inr ⟨o, e a _ h⟩
theorem ex_l {K : PySem.W.Frag} {H H' : Hp} {a : Addr} {xs : List V} (e : Ex H H') (h : SqL K H a xs) : SqL K H' a xs := by
  rcases h with h | h
  · exact Or.inl (ex_rd e h)
  · exact Or.inr h
theorem ex_t {K : PySem.W.Frag} {H H' : Hp} {a : Addr} {xs : List V} (e : Ex H H') (h : SqT K H a xs) : SqT K H' a xs := by
  rcases h with h | h
  · exact Or.inl (ex_rd e h)
  · exact Or.inr h

mutual
/-- a value stands for data, by what the heap S holds for good -/
inductive Rp (K : PySem.W.Frag) (S : Hp) : V → D → Prop
  | non : Rp K S .non .non
  | bl (b : Bool) : Rp K S (.bl b) (.bl b)
  | int (i : Int) : Rp K S (.int i) (.int i)
  | str (x : Str) : Rp K S (.str x) (.str x)
  | byt (b : Array UInt8) : Rp K S (.byt b) (.byt b)
  | lst {a : Addr} {vs : List V} {ds : List D} : SqL K S a vs → RpAll K S vs ds → Rp K S (.ref a) (.lst ds)
  | tup {a : Addr} {vs : List V} {ds : List D} : S a = some (.tup vs) → RpAll K S vs ds → Rp K S (.ref a) (.tup ds)
  | ins {a C dx : Addr} {ns : List Str} {vs : List V} {ds : List D} : S a = some (.ins C dx (ns.zip vs)) → ns.length = vs.length → RpAll K S vs ds → Rp K S (.ref a) (.ins C ns ds)
  | dic {a : Addr} {o : Obj} {ks : List Key} {vs : List V} {ds : List D} : S a = some (.frz o (.dK (ks.zip vs))) → ks.length = vs.length → RpAll K S vs ds → Rp K S (.ref a) (.dic ks ds)
  | dit {a : Addr} {o : Obj} {ks : List (List Key)} {vs : List V} {ds : List D} : S a = some (.frz o (.dT (ks.zip vs))) → ks.length = vs.length → RpAll K S vs ds → Rp K S (.ref a) (.dit ks ds)
  | ktp {a : Addr} {vs : List V} {ds : List D} : SqT K S a vs → RpAll K S vs ds → Rp K S (.ref a) (.ktp ds)
  | lam {a : Addr} (i : Nat) {φ : Hp → Addr → Prop} : (∀ S', Ex S S' → φ S' a) → Rp K S (.ref a) (.lam i φ)
  | ref (a : Addr) : Rp K S (.ref a) (.ref a)
  | ty (n : String) : Rp K S (.ty n) (.ty n)
inductive RpAll (K : PySem.W.Frag) (S : Hp) : List V → List D → Prop
  | nil : RpAll K S [] []
  | cons {v : V} {vs : List V} {d : D} {ds : List D} : Rp K S v d → RpAll K S vs ds → RpAll K S (v :: vs) (d :: ds)
end
section
variable {K : PySem.W.Frag} {S S' : Hp}
theorem Rp.mono (e : Ex S S') {v : V} {d : D} (h : Rp K S v d) : Rp K S' v d :=
  Rp.rec (motive_1 := fun v d _ => Rp K S' v d) (motive_2 := fun vs ds _ => RpAll K S' vs ds)
    .non .bl .int .str .byt (fun q _ ih => .lst (ex_l e q) ih) (fun q _ ih => .tup (e _ _ q) ih)
    (fun q l _ ih => .ins (e _ _ q) l ih) (fun q l _ ih => .dic (e _ _ q) l ih) (fun q l _ ih => .dit (e _ _ q) l ih) (fun q _ ih => .ktp (ex_t e q) ih) (fun i _ q => .lam i fun S2 e2 => q S2 (e.trans e2)) .ref .ty .nil (fun _ _ a b => .cons a b) h
theorem RpAll.mono (e : Ex S S') : ∀ {vs : List V} {ds : List D}, RpAll K S vs ds → RpAll K S' vs ds
  | _, _, .nil => .nil
  | _, _, .cons a b => .cons (a.mono e) (RpAll.mono e b)
theorem RpAll.length : ∀ {vs : List V} {ds : List D}, RpAll K S vs ds → vs.length = ds.length
  | _, _, .nil => rfl
  | _, _, .cons _ b => by simp [b.length]
theorem RpAll.append : ∀ {vs ws : List V} {ds es : List D}, RpAll K S vs ds → RpAll K S ws es → RpAll K S (vs ++ ws) (ds ++ es)
  | _, _, _, _, .nil, h => h
  | _, _, _, _, .cons a b, h => .cons a (RpAll.append b h)
theorem RpAll.get : ∀ {vs : List V} {ds : List D} {i : Nat} {v : V}, RpAll K S vs ds → vs[i]? = some v → ∃ d, ds[i]? = some d ∧ Rp K S v d
  | _, _, _, _, .nil, e => by simp at e
  | _, _, 0, _, .cons a _, e => by simp at e; subst e; exact ⟨_, rfl, a⟩
  | _, _, i + 1, _, .cons _ b, e => by
    obtain ⟨d, h1, h2⟩ := b.get (i := i) (by simpa using e)
    exact ⟨d, by simpa using h1, h2⟩
theorem RpAll.getD : ∀ {vs : List V} {ds : List D} {i : Nat} {d : D}, RpAll K S vs ds → ds[i]? = some d → ∃ v, vs[i]? = some v ∧ Rp K S v d
  | _, _, _, _, .nil, e => by simp at e
  | _, _, 0, _, .cons a _, e => by simp at e; subst e; exact ⟨_, rfl, a⟩
  | _, _, i + 1, _, .cons _ b, e => by
    obtain ⟨d, h1, h2⟩ := b.getD (i := i) (by simpa using e)
    exact ⟨d, by simpa using h1, h2⟩
theorem RpAll.drop : ∀ (n : Nat) {vs : List V} {ds : List D}, RpAll K S vs ds → RpAll K S (vs.drop n) (ds.drop n)
  | 0, _, _, h => h
  | _ + 1, _, _, .nil => .nil
  | n + 1, _, _, .cons _ b => RpAll.drop n b
theorem RpAll.take : ∀ (n : Nat) {vs : List V} {ds : List D}, RpAll K S vs ds → RpAll K S (vs.take n) (ds.take n)
  | 0, _, _, _ => .nil
  | _ + 1, _, _, .nil => .nil
  | n + 1, _, _, .cons a b => .cons a (RpAll.take n b)
theorem RpAll.reverse : ∀ {vs : List V} {ds : List D}, RpAll K S vs ds → RpAll K S vs.reverse ds.reverse
  | _, _, .nil => .nil
  | _, _, .cons a b => by
    rw [List.reverse_cons, List.reverse_cons]
    exact b.reverse.append (.cons a .nil)
theorem RpAll.set : ∀ {vs : List V} {ds : List D} (i : Nat) {v : V} {d : D}, RpAll K S vs ds → Rp K S v d → RpAll K S (vs.set i v) (ds.set i d)
  | _, _, _, _, _, .nil, _ => .nil
  | _, _, 0, _, _, .cons _ b, h => .cons h b
  | _, _, i + 1, _, _, .cons a b, h => .cons a (RpAll.set i b h)
theorem RpAll.ints : ∀ {ns : List Int} {vs : List V}, RpAll K S vs (ns.map D.int) → vs = ns.map V.int
  | [], _, h => by cases h; rfl
  | n :: ns, _, h => by
    cases h with
    | cons a b =>
      cases a
      rw [RpAll.ints b]; rfl
theorem RpAll.of_ints : ∀ (ns : List Int), RpAll K S (ns.map V.int) (ns.map D.int)
  | [] => .nil
  | n :: ns => .cons (.int n) (RpAll.of_ints ns)
theorem Rp.int_inv {v : V} {i : Int} (h : Rp K S v (.int i)) : v = .int i := by cases h; rfl
theorem Rp.bl_inv {v : V} {b : Bool} (h : Rp K S v (.bl b)) : v = .bl b := by cases h; rfl
theorem Rp.str_inv {v : V} {x : Str} (h : Rp K S v (.str x)) : v = .str x := by cases h; rfl
theorem Rp.non_inv {v : V} (h : Rp K S v .non) : v = .non := by cases h; rfl
theorem Rp.lst_inv {v : V} {ds : List D} (h : Rp K S v (.lst ds)) : ∃ a vs, v = .ref a ∧ SqL K S a vs ∧ RpAll K S vs ds := by cases h with | lst q r => exact ⟨_, _, rfl, q, r⟩
theorem Rp.tup_inv {v : V} {ds : List D} (h : Rp K S v (.tup ds)) : ∃ a vs, v = .ref a ∧ SqT K S a vs ∧ RpAll K S vs ds := by cases h with | tup q r => exact ⟨_, _, rfl, SqT.of q, r⟩
theorem Rp.ktp_inv {v : V} {ds : List D} (h : Rp K S v (.ktp ds)) : ∃ a vs, v = .ref a ∧ SqT K S a vs ∧ RpAll K S vs ds := by cases h with | ktp q r => exact ⟨_, _, rfl, q, r⟩
theorem Rp.tup_at {v : V} {ds : List D} (h : Rp K S v (.tup ds)) : ∃ a vs, v = .ref a ∧ S a = some (.tup vs) ∧ RpAll K S vs ds := by cases h with | tup q r => exact ⟨_, _, rfl, q, r⟩
theorem Rp.ins_inv {v : V} {C : Addr} {ns : List Str} {ds : List D} (h : Rp K S v (.ins C ns ds)) : ∃ a dx vs, v = .ref a ∧ S a = some (.ins C dx (ns.zip vs)) ∧ ns.length = vs.length ∧ RpAll K S vs ds := by
  cases h with | ins q l r => exact ⟨_, _, _, rfl, q, l, r⟩
end

/-! ### a slot's value: data, or an object that is ours to change -/
inductive VD where
  | d (x : D)
  | loc (n : Nat)
/-- what an object of ours holds -/
inductive OD where
  | lst (ds : List D)
  | dic (ks : List Key) (ds : List D)
  | dit (ks : List (List Key)) (ds : List D)
  | ins (C : Addr) (ns : List Str) (xs : List VD)
  /-- the table of code objects at P -/
  | tb (P : Addr) (q : Str)
structure Env where
  /-- how many of the objects are the caller's -/
  m : Nat
  sl : List (Option VD)
  ow : List (Option OD)

inductive Rv (K : PySem.W.Frag) (S : Hp) (ad : List Addr) : V → VD → Prop
  | d {v : V} {x : D} : Rp K S v x → Rv K S ad v (.d x)
  | loc {n : Nat} {l : Addr} : ad[n]? = some l → Rv K S ad (.ref l) (.loc n)
inductive RvAll (K : PySem.W.Frag) (S : Hp) (ad : List Addr) : List V → List VD → Prop
  | nil : RvAll K S ad [] []
  | cons {v : V} {vs : List V} {x : VD} {xs : List VD} : Rv K S ad v x → RvAll K S ad vs xs → RvAll K S ad (v :: vs) (x :: xs)
/-- a table whose code objects stand for good -/
def TbOk (S : Hp) (ps : Array Value) (q : Str) : Prop := TriplesOk ps.toList ∧ ∀ (pos : Pos) (cv : Value), codeAmong pos ps.toList = some cv → ∃ c, cv = .ref c ∧ S c = some (LamX.CodeO c q)
def OR (K : PySem.W.Frag) (S : Hp) (ad : List Addr) (l : Addr) : HO → OD → Prop
  | .lst vs, .lst ds => RpAll K S vs ds
  | .dK kvs, .dic ks ds => ∃ vs, kvs = ks.zip vs ∧ ks.length = vs.length ∧ RpAll K S vs ds
  | .dT kvs, .dit ks ds => ∃ vs, kvs = ks.zip vs ∧ ks.length = vs.length ∧ RpAll K S vs ds
  | .ins C _ fs, .ins C' ns xs => C = C' ∧ ∃ vs, fs = ns.zip vs ∧ ns.length = vs.length ∧ RvAll K S ad vs xs
  | .tbl ps, .tb P q => l = P ∧ TbOk S ps q
  | _, _ => False
/-- the state moves on: S grows, new objects of ours come behind -/
structure Step (S : Hp) (ad : List Addr) (S' : Hp) (ad' : List Addr) : Prop where
  s : Ex S S'
  a : ∃ more, ad' = ad ++ more
theorem Step.refl (S : Hp) (ad : List Addr) : Step S ad S ad := ⟨.refl _, [], by simp⟩
theorem Step.trans {S S1 S2 : Hp} {ad ad1 ad2 : List Addr} (h : Step S ad S1 ad1) (h' : Step S1 ad1 S2 ad2) : Step S ad S2 ad2 := by
  obtain ⟨m1, e1⟩ := h.a
  obtain ⟨m2, e2⟩ := h'.a
  exact ⟨h.s.trans h'.s, m1 ++ m2, by rw [e2, e1, List.append_assoc]⟩
theorem Step.get {S S1 : Hp} {ad ad1 : List Addr} (h : Step S ad S1 ad1) {n : Nat} {l : Addr} (e : ad[n]? = some l) : ad1[n]? = some l := by
  obtain ⟨m1, e1⟩ := h.a
  rw [e1, List.getElem?_append_left (List.getElem?_eq_some_iff.mp e).1]; exact e
section
variable {K : PySem.W.Frag} {S S' : Hp} {ad ad' : List Addr}
theorem Rv.mono (e : Step S ad S' ad') : ∀ {v : V} {x : VD}, Rv K S ad v x → Rv K S' ad' v x
  | _, _, .d h => .d (h.mono e.s)
  | _, _, .loc h => .loc (e.get h)
theorem RvAll.mono (e : Step S ad S' ad') : ∀ {vs : List V} {xs : List VD}, RvAll K S ad vs xs → RvAll K S' ad' vs xs
  | _, _, .nil => .nil
  | _, _, .cons a b => .cons (a.mono e) (RvAll.mono e b)
theorem RvAll.length : ∀ {vs : List V} {xs : List VD}, RvAll K S ad vs xs → vs.length = xs.length
  | _, _, .nil => rfl
  | _, _, .cons _ b => by simp [b.length]
theorem RvAll.get : ∀ {vs : List V} {xs : List VD} {i : Nat} {x : VD}, RvAll K S ad vs xs → xs[i]? = some x → ∃ v, vs[i]? = some v ∧ Rv K S ad v x
  | _, _, _, _, .nil, e => by simp at e
  | _, _, 0, _, .cons a _, e => by simp at e; subst e; exact ⟨_, rfl, a⟩
  | _, _, i + 1, _, .cons _ b, e => by
    obtain ⟨d, h1, h2⟩ := b.get (i := i) (by simpa using e)
    exact ⟨d, by simpa using h1, h2⟩
theorem TbOk.mono {ps : Array Value} {q : Str} (e : Ex S S') (h : TbOk S ps q) : TbOk S' ps q := ⟨h.1, fun pos cv z => by
  obtain ⟨c, e1, e2⟩ := h.2 pos cv z
  exact ⟨c, e1, e _ _ e2⟩⟩
theorem OR.mono {l : Addr} (e : Step S ad S' ad') {ho : HO} {o : OD} (h : OR K S ad l ho o) : OR K S' ad' l ho o := by
  cases ho <;> cases o <;> first | exact h.elim | skip
  · exact RpAll.mono e.s h
  · obtain ⟨vs, h1, h2, h3⟩ := h; exact ⟨vs, h1, h2, h3.mono e.s⟩
  · obtain ⟨vs, h1, h2, h3⟩ := h; exact ⟨vs, h1, h2, h3.mono e.s⟩
  · obtain ⟨h0, vs, h1, h2, h3⟩ := h; exact ⟨h0, vs, h1, h2, h3.mono e⟩
  · exact ⟨h.1, h.2.mono e.s⟩
theorem RvAll.of_d : ∀ {vs : List V} {ds : List D}, RpAll K S vs ds → RvAll K S ad vs (ds.map VD.d)
  | _, _, .nil => .nil
  | _, _, .cons a b => .cons (.d a) (RvAll.of_d b)
end

/-- from (S0, H0) to (S, H): only the objects at M and new ones changed; S took up new ones alone -/
structure Grow (M : List Addr) (S0 H0 S H : Hp) : Prop where
  s : Ex S0 S
  sh : Ex S H
  h : ∀ a o, H0 a = some o → a ∉ M → H a = some o
  n : ∀ a, S0 a = none → H0 a ≠ none → (∀ xs, H0 a ≠ some (.tup xs)) → S a = none
structure Fr where
  M : List Addr
  S : Hp
  H : Hp
structure Rel (K : PySem.W.Frag) (fr : Fr) (ρ : Env) (σ : L2.St) (S H : Hp) (ad : List Addr) : Prop where
  grow : Grow fr.M fr.S fr.H S H
  slots : ∀ (i : Nat) x, ρ.sl[i]? = some (some x) → ∃ v, σ[i]? = some (some v) ∧ Rv K S ad v x
  own : ∀ (n : Nat) o, ρ.ow[n]? = some (some o) → ∃ l ho, ad[n]? = some l ∧ S l = none ∧ H l = some ho ∧ OR K S ad l ho o ∧ (ρ.m ≤ n → fr.H l = none)
  mm : fr.M.length = ρ.m ∧ ad.take ρ.m = fr.M
  nd : ad.Nodup
  len : ρ.sl.length = σ.length
  al : ad.length = ρ.ow.length
  ml : ∀ n, n < ρ.m → ∃ o, ρ.ow[n]? = some (some o)
  lv : ∀ l ∈ ad, H l ≠ none
theorem nodup_ixA {l : List Addr} (hN : l.Nodup) {i j : Nat} {x : Addr} (a : l[i]? = some x) (b : l[j]? = some x) : i = j := by
  obtain ⟨h1, e1⟩ := List.getElem?_eq_some_iff.mp a
  obtain ⟨h2, e2⟩ := List.getElem?_eq_some_iff.mp b
  exact (List.getElem_inj hN).mp (e1.trans e2.symm)
section
variable {K : PySem.W.Frag} {fr : Fr} {ρ : Env} {σ : L2.St} {S H : Hp} {ad : List Addr}
theorem Rel.inM (R : Rel K fr ρ σ S H ad) {n : Nat} {l : Addr} (e : ad[n]? = some l) (hn : n < ρ.m) : l ∈ fr.M := by
  rw [← R.mm.2]
  have : (ad.take ρ.m)[n]? = some l := by rw [List.getElem?_take_of_lt hn]; exact e
  exact List.mem_of_getElem? this
theorem Rel.atM (R : Rel K fr ρ σ S H ad) {l : Addr} (h : l ∈ fr.M) : ∃ n o ho, n < ρ.m ∧ ad[n]? = some l ∧ ρ.ow[n]? = some (some o) ∧ S l = none ∧ H l = some ho := by
  rw [← R.mm.2] at h
  obtain ⟨j, hj⟩ := List.getElem?_of_mem h
  have hlt := (List.getElem?_eq_some_iff.mp hj).1
  rw [List.length_take] at hlt
  have hj2 : ad[j]? = some l := by
    rw [List.getElem?_take_of_lt (by omega)] at hj; exact hj
  obtain ⟨o, ho⟩ := R.ml j (by omega)
  obtain ⟨l', u, e1, e2, e3, _⟩ := R.own j o ho
  rw [hj2] at e1; cases e1
  exact ⟨j, o, u, by omega, hj2, ho, e2, e3⟩
/-- what stood at the entry stands -/
theorem Rel.old (R : Rel K fr ρ σ S H ad) {a : Addr} (h : fr.H a ≠ none) : H a ≠ none := fun z => by
  by_cases hm : a ∈ fr.M
  · obtain ⟨_, _, _, _, _, _, _, e⟩ := R.atM hm
    rw [z] at e; cases e
  · cases q : fr.H a with
    | none => exact h q
    | some u => rw [R.grow.h a u q hm] at z; cases z
theorem _root_.DL.upd_some {H : Hp} {p a : Addr} {o : HO} (h : H a ≠ none) : upd H p o a ≠ none := by
  by_cases e : a = p
  · subst e; rw [upd_same]; simp
  · rw [upd_ne e]; exact h
theorem OR.ntup {l : Addr} {xs : List V} {o : OD} (h : OR K S ad l (.tup xs) o) : False := by cases o <;> exact h.elim
theorem Rel.ntup (R : Rel K fr ρ σ S H ad) {a : Addr} (h2 : fr.H a ≠ none) (h3 : ∀ xs, fr.H a ≠ some (.tup xs)) (xs : List V) : H a ≠ some (.tup xs) := fun e => by
  by_cases hM : a ∈ fr.M
  · obtain ⟨n, o, ho, h4, h5, h6, _, h7⟩ := R.atM hM
    obtain ⟨l, ho', f1, _, f3, f4, _⟩ := R.own n o h6
    rw [h5] at f1; cases f1
    rw [e] at f3; cases f3
    exact f4.ntup
  · cases q : fr.H a with
    | none => exact h2 q
    | some u =>
      have := R.grow.h a u q hM
      rw [e] at this; cases this
      exact h3 xs q
/-- a tuple that is there is data -/
theorem Rel.tupS (R : Rel K fr ρ σ S H ad) {b : Addr} {xs : List V} (hb : H b = some (.tup xs)) : ∃ S', Rel K fr ρ σ S' H ad ∧ Step S ad S' ad ∧ S' b = some (.tup xs) := by
  cases q : S b with
  | some u =>
    have := R.grow.sh b u q
    rw [hb] at this; cases this
    exact ⟨S, R, .refl _ _, q⟩
  | none =>
    have hst : Step S ad (upd S b (.tup xs)) ad := ⟨.new q, [], by simp⟩
    refine ⟨_, ⟨⟨R.grow.s.trans hst.s, fun a u e => ?_, R.grow.h, fun a e hn ht => ?_⟩, fun i x e => ?_, fun n u e => ?_, R.mm, R.nd, R.len, R.al, R.ml, R.lv⟩, hst, upd_same⟩
    · by_cases h : a = b
      · subst h; rw [upd_same] at e; cases e; exact hb
      · rw [upd_ne h] at e; exact R.grow.sh a u e
    · have : a ≠ b := fun z => R.ntup hn ht xs (z ▸ hb)
      rw [upd_ne this]; exact R.grow.n a e hn ht
    · obtain ⟨v, e1, e2⟩ := R.slots i x e
      exact ⟨v, e1, e2.mono hst⟩
    · obtain ⟨l, ho, e1, e2, e3, e4, e5⟩ := R.own n u e
      have ne : l ≠ b := fun z => by rw [z, hb] at e3; cases e3; exact e4.ntup
      exact ⟨l, ho, e1, by rw [upd_ne ne]; exact e2, e3, e4.mono hst, e5⟩
/-- a new thing for good -/
theorem Rel.newS (R : Rel K fr ρ σ S H ad) {p : Addr} {o : HO} (hp : H p = none) : Rel K fr ρ σ (upd S p o) (upd H p o) ad ∧ Step S ad (upd S p o) ad := by
  have hS : S p = none := R.grow.sh.back hp
  have hst : Step S ad (upd S p o) ad := ⟨.new hS, [], by simp⟩
  refine ⟨⟨⟨R.grow.s.trans hst.s, R.grow.sh.both, fun a u e hm => ?_, fun a e hn ht => ?_⟩, fun i x e => ?_, fun n u e => ?_, R.mm, R.nd, R.len, R.al, R.ml, fun l hl => ?_⟩, hst⟩
  · have := R.grow.h a u e hm
    rw [upd_ne (ne_of_none this hp)]; exact this
  · have : a ≠ p := fun z => R.old hn (z ▸ hp)
    rw [upd_ne this]; exact R.grow.n a e hn ht
  · obtain ⟨v, e1, e2⟩ := R.slots i x e
    exact ⟨v, e1, e2.mono hst⟩
  · obtain ⟨l, ho, e1, e2, e3, e4, e5⟩ := R.own n u e
    have hl : l ≠ p := ne_of_none e3 hp
    exact ⟨l, ho, e1, by rw [upd_ne hl]; exact e2, by rw [upd_ne hl]; exact e3, e4.mono hst, e5⟩
  · exact upd_some (R.lv l hl)
/-- a new thing that is ours -/
theorem Rel.newO (R : Rel K fr ρ σ S H ad) {p : Addr} {ho : HO} {o : OD} (hp : H p = none) (h : OR K S (ad ++ [p]) p ho o) :
    Rel K fr { ρ with ow := ρ.ow ++ [some o] } σ S (upd H p ho) (ad ++ [p]) ∧ Step S ad S (ad ++ [p]) ∧ (ad ++ [p])[ρ.ow.length]? = some p := by
  have hS : S p = none := R.grow.sh.back hp
  have hst : Step S ad S (ad ++ [p]) := ⟨.refl _, [p], rfl⟩
  have hnp : p ∉ ad := fun z => R.lv p z hp
  have hm : ρ.m ≤ ad.length := by
    have := congrArg List.length R.mm.2
    rw [List.length_take, R.mm.1] at this; omega
  refine ⟨⟨⟨R.grow.s, R.grow.sh.mut hS, fun a u e hm => ?_, R.grow.n⟩, fun i x e => ?_, fun n u e => ?_, ⟨R.mm.1, ?_⟩, ?_, R.len, ?_, fun n hn => ?_, fun l hl => ?_⟩, hst, ?_⟩
  · have := R.grow.h a u e hm
    rw [upd_ne (ne_of_none this hp)]; exact this
  · obtain ⟨v, e1, e2⟩ := R.slots i x e
    exact ⟨v, e1, e2.mono hst⟩
  · by_cases hn : n < ρ.ow.length
    · have e' : ρ.ow[n]? = some (some u) := by rw [← e]; exact (List.getElem?_append_left hn).symm
      obtain ⟨l, ho', e1, e2, e3, e4, e5⟩ := R.own n u e'
      have hl : l ≠ p := ne_of_none e3 hp
      exact ⟨l, ho', hst.get e1, e2, by rw [upd_ne hl]; exact e3, e4.mono hst, e5⟩
    · have hlt := (List.getElem?_eq_some_iff.mp e).1
      simp at hlt
      have hn' : n = ρ.ow.length := by omega
      subst hn'
      have : u = o := by simpa using e.symm
      subst this
      refine ⟨p, ho, by rw [← R.al]; simp, hS, upd_same, h, fun _ => ?_⟩
      cases q : fr.H p with
      | none => rfl
      | some w => exact absurd hp (R.old (by rw [q]; simp))
  · rw [List.take_append_of_le_length hm]; exact R.mm.2
  · refine List.nodup_append.mpr ⟨R.nd, by simp, fun a ha b hb => ?_⟩
    have : b = p := by simpa using hb
    subst this
    exact fun z => hnp (z ▸ ha)
  · simp [R.al]
  · obtain ⟨o', e⟩ := R.ml n hn
    exact ⟨o', by rw [← e]; exact List.getElem?_append_left (List.getElem?_eq_some_iff.mp e).1⟩
  · rcases List.mem_append.mp hl with z | z
    · exact upd_some (R.lv l z)
    · have : l = p := by simpa using z
      subst this; rw [upd_same]; simp
  · rw [← R.al]; simp
/-- an object of ours changes -/
theorem Rel.setO (R : Rel K fr ρ σ S H ad) {n : Nat} {l : Addr} {o o' : OD} {ho : HO} (hn : ρ.ow[n]? = some (some o)) (hl : ad[n]? = some l) (h : OR K S ad l ho o') :
    Rel K fr { ρ with ow := ρ.ow.set n (some o') } σ S (upd H l ho) ad := by
  obtain ⟨l', u, e1, e2, e3, e4, e5⟩ := R.own n o hn
  rw [hl] at e1; cases e1
  have hlt := (List.getElem?_eq_some_iff.mp hn).1
  refine ⟨⟨R.grow.s, R.grow.sh.mut e2, fun a w e hm => ?_, R.grow.n⟩, R.slots, fun j w e => ?_, R.mm, R.nd, R.len, by simp [R.al], fun j hj => ?_, fun a ha => upd_some (R.lv a ha)⟩
  · have := R.grow.h a w e hm
    have ne : a ≠ l := fun z => by
      subst z
      by_cases hnm : ρ.m ≤ n
      · rw [e5 hnm] at e; cases e
      · exact hm (R.inM hl (by omega))
    rw [upd_ne ne]; exact this
  · by_cases hj : j = n
    · subst hj
      rw [List.getElem?_set_self hlt] at e
      cases e
      exact ⟨l, ho, hl, e2, upd_same, h, e5⟩
    · rw [List.getElem?_set_ne (Ne.symm hj)] at e
      obtain ⟨l2, u2, f1, f2, f3, f4, f5⟩ := R.own j w e
      have ne : l2 ≠ l := fun z => by subst z; exact hj (nodup_ixA R.nd f1 hl)
      exact ⟨l2, u2, f1, f2, by rw [upd_ne ne]; exact f3, f4, f5⟩
  · by_cases hj' : j = n
    · subst hj'; exact ⟨o', List.getElem?_set_self hlt⟩
    · obtain ⟨w, e⟩ := R.ml j hj
      exact ⟨w, by rw [List.getElem?_set_ne (Ne.symm hj')]; exact e⟩
/-- a slot is stored -/
theorem Rel.setSl (R : Rel K fr ρ σ S H ad) {i : Nat} {v : V} {x : VD} (h : Rv K S ad v x) : Rel K fr { ρ with sl := ρ.sl.set i (some x) } (σ.set i (some v)) S H ad := by
  refine ⟨R.grow, fun j y e => ?_, R.own, R.mm, R.nd, by simp [R.len], R.al, R.ml, R.lv⟩
  by_cases hj : j = i
  · subst hj
    have hlt := (List.getElem?_eq_some_iff.mp e).1
    rw [List.length_set] at hlt
    rw [List.getElem?_set_self hlt] at e
    cases e
    exact ⟨v, List.getElem?_set_self (by rw [← R.len]; exact hlt), h⟩
  · rw [List.getElem?_set_ne (Ne.symm hj)] at e
    obtain ⟨w, e1, e2⟩ := R.slots j y e
    exact ⟨w, by rw [List.getElem?_set_ne (Ne.symm hj)]; exact e1, e2⟩
/-- forgetting slots -/
theorem Rel.weak {sl' : List (Option VD)} {σ' : L2.St} (R : Rel K fr ρ σ S H ad) (hl : sl'.length = σ'.length) (h : ∀ (i : Nat) x, sl'[i]? = some (some x) → ρ.sl[i]? = some (some x) ∧ σ'[i]? = σ[i]?) : Rel K fr { ρ with sl := sl' } σ' S H ad :=
  ⟨R.grow, fun i x e => by
    obtain ⟨h1, h2⟩ := h i x e
    obtain ⟨v, e1, e2⟩ := R.slots i x h1
    exact ⟨v, h2.trans e1, e2⟩, R.own, R.mm, R.nd, hl, R.al, R.ml, R.lv⟩
end
end DL

namespace DL
open PySem PySem.Spec PyProof.Rows L2

/-! ### judgements: canonical readings -/
def tE (K : PySem.W.Frag) (ρ : Env) (x : VD) (ρ' : Env) : TE := fun σ H Q => ∃ fr S ad, Rel K fr ρ σ S H ad ∧ ∀ S' H' ad' v, Step S ad S' ad' → Rel K fr ρ' σ S' H' ad' → Rv K S' ad' v x → Q v H'
def tA (K : PySem.W.Frag) (ρ : Env) (xs : List VD) (ρ' : Env) : TA := fun σ H Q => ∃ fr S ad, Rel K fr ρ σ S H ad ∧ ∀ S' H' ad' vs, Step S ad S' ad' → Rel K fr ρ' σ S' H' ad' → RvAll K S' ad' vs xs → Q vs H'
def tT (K : PySem.W.Frag) (ρ : Env) (b : Bool) (ρ' : Env) : TT := fun σ H Q => ∃ fr S ad, Rel K fr ρ σ S H ad ∧ ∀ S' H' ad', Step S ad S' ad' → Rel K fr ρ' σ S' H' ad' → Q b H'
/-- an expression gives x and leaves ρ' -/
def ED (X : Cx) (ρ : Env) (e : Expr) (x : VD) (ρ' : Env) : Prop := PE X e (tE X.K ρ x ρ')
def AD (X : Cx) (ρ : Env) (es : List Expr) (xs : List VD) (ρ' : Env) : Prop := PA X es (tA X.K ρ xs ρ')
def TD (X : Cx) (ρ : Env) (e : Expr) (b : Bool) (ρ' : Env) : Prop := PT X e (tT X.K ρ b ρ')
def TW (X : Cx) (ρ : Env) (e : Expr) (b : Bool) (ρ' : Env) : Prop := PW X e (tT X.K ρ b ρ')
section
variable {X : Cx} {ρ ρ' ρ1 ρ2 ρ3 : Env} {e a b c : Expr} {es : List Expr} {x y z : VD} {pos : Pos}
theorem ed_of {t : TE} (h : PE X e t) (q : ∀ σ H Q, tE X.K ρ x ρ' σ H Q → t σ H Q) : ED X ρ e x ρ' := ⟨fun pins s σ H Q I hq => h.run pins s σ H Q I (q σ H Q hq)⟩
theorem td_of {t : TT} {k : Bool} (h : PT X e t) (q : ∀ σ H Q, tT X.K ρ k ρ' σ H Q → t σ H Q) : TD X ρ e k ρ' := ⟨fun pins s σ H Q I hq => h.run pins s σ H Q I (q σ H Q hq)⟩
theorem tw_of {t : TT} {k : Bool} (h : PW X e t) (q : ∀ σ H Q, tT X.K ρ k ρ' σ H Q → t σ H Q) : TW X ρ e k ρ' := ⟨fun wh pins s σ H Q I hq => h.run wh pins s σ H Q I (q σ H Q hq)⟩
theorem ad_of {t : TA} {xs : List VD} (h : PA X es t) (q : ∀ σ H Q, tA X.K ρ xs ρ' σ H Q → t σ H Q) : AD X ρ es xs ρ' := ⟨fun pos pins s σ H Q I hq => h.run pos pins s σ H Q I (q σ H Q hq)⟩
theorem TW.td {k : Bool} (h : TW X ρ e k ρ') : TD X ρ e k ρ' := PW.pt h
/-- what comes out, said otherwise -/
theorem ED.to (h : ED X ρ e x ρ1) (e1 : x = y) (e2 : ρ1 = ρ2) : ED X ρ e y ρ2 := e1 ▸ e2 ▸ h
theorem TD.to {k l : Bool} (h : TD X ρ e k ρ1) (e1 : k = l) : TD X ρ e l ρ1 := e1 ▸ h

section
variable {K : PySem.W.Frag} {S : Hp} {ad : List Addr} {v : V}
theorem Rv.dd {q : D} (h : Rv K S ad v (.d q)) : Rp K S v q := by cases h with | d h => exact h
theorem Rv.di {i : Int} (h : Rv K S ad v (.d (.int i))) : v = .int i := h.dd.int_inv
theorem Rv.db {i : Bool} (h : Rv K S ad v (.d (.bl i))) : v = .bl i := h.dd.bl_inv
theorem Rv.ds {i : Str} (h : Rv K S ad v (.d (.str i))) : v = .str i := h.dd.str_inv
theorem Rv.dn (h : Rv K S ad v (.d .non)) : v = .non := h.dd.non_inv
theorem Rv.dl {n : Nat} (h : Rv K S ad v (.loc n)) : ∃ l, v = .ref l ∧ ad[n]? = some l := by cases h with | loc h => exact ⟨_, rfl, h⟩
end
/-! ### names, constants -/
theorem ed_var (i : Nat) {n : Str} (hs : ρ.sl[i]? = some (some x)) (hN : X.N[i]? = some n) (hv : Vis X.env.scope n) (hd : (n == ("__debug__" : Str)) = false := by decide) (hcd : (n == ("__classdict__" : Str)) = false := by decide) :
    ED X ρ (.Name n pos) x ρ := ed_of (pe_var hN hv hd hcd) fun σ H Q ⟨fr, S, ad, R, k⟩ => by
  obtain ⟨v, e1, e2⟩ := R.slots i x hs
  exact ⟨v, e1, k S H ad v (.refl _ _) R e2⟩
theorem ed_int {i : Int} {j : Nat} : ED X ρ (.Constant (.int i) j pos) (.d (.int i)) ρ := ed_of pe_int fun σ H Q ⟨fr, S, ad, R, k⟩ => k S H ad _ (.refl _ _) R (.d (.int i))
theorem ed_bl {i : Bool} {j : Nat} : ED X ρ (.Constant (.bool i) j pos) (.d (.bl i)) ρ := ed_of pe_bl fun σ H Q ⟨fr, S, ad, R, k⟩ => k S H ad _ (.refl _ _) R (.d (.bl i))
theorem ed_non {j : Nat} : ED X ρ (.Constant .none j pos) (.d .non) ρ := ed_of pe_non fun σ H Q ⟨fr, S, ad, R, k⟩ => k S H ad _ (.refl _ _) R (.d .non)
theorem ed_str {i : Str} {j : Nat} : ED X ρ (.Constant (.str i) j pos) (.d (.str i)) ρ := ed_of pe_str fun σ H Q ⟨fr, S, ad, R, k⟩ => k S H ad _ (.refl _ _) R (.d (.str i))
/-- a module's constant: an int, a text, a class .. -/
theorem ed_gint {n : Str} {i : Int} {t : Tok} (hm : X.mg n = some (.int i t)) (hg : Gl X n) (hd : (n == ("__debug__" : Str)) = false := by decide) : ED X ρ (.Name n pos) (.d (.int i)) ρ :=
  ed_of (pe_glob (v := .int i) hg hm ⟨_, rfl⟩ hd) fun σ H Q ⟨fr, S, ad, R, k⟩ => k S H ad _ (.refl _ _) R (.d (.int i))
theorem ed_gstr {n : Str} {i : Str} {t : Tok} (hm : X.mg n = some (.str i t)) (hg : Gl X n) (hd : (n == ("__debug__" : Str)) = false := by decide) : ED X ρ (.Name n pos) (.d (.str i)) ρ :=
  ed_of (pe_glob (v := .str i) hg hm ⟨_, rfl⟩ hd) fun σ H Q ⟨fr, S, ad, R, k⟩ => k S H ad _ (.refl _ _) R (.d (.str i))
theorem ed_gref {n : Str} {i : Addr} (hm : X.mg n = some (.ref i)) (hg : Gl X n) (hd : (n == ("__debug__" : Str)) = false := by decide) : ED X ρ (.Name n pos) (.d (.ref i)) ρ :=
  ed_of (pe_glob (v := .ref i) hg hm rfl hd) fun σ H Q ⟨fr, S, ad, R, k⟩ => k S H ad _ (.refl _ _) R (.d (.ref i))
/-- a built-in class as a value -/
theorem ed_bty {n : Str} {T : String} (hm : X.mg n = none) (hg : Gl X n) (hv : bootBuiltins n = some (.type T)) (hn : n ≠ "__name__" := by decide) (hd : (n == ("__debug__" : Str)) = false := by decide) : ED X ρ (.Name n pos) (.d (.ty T)) ρ :=
  ed_of (pe_bltn (v := .ty T) hg hm hv rfl hn hd) fun σ H Q ⟨fr, S, ad, R, k⟩ => k S H ad _ (.refl _ _) R (.d (.ty T))

/-! ### operators -/
/-- two values in a row -/
theorem two_ {r : R2} (σ : L2.St) (H : Hp) (Q : VK) (w : VD) (hk : tE X.K ρ w ρ2 σ H Q)
    (h : ∀ fr S ad S1 H1 ad1 v1 v2, Rel X.K fr ρ2 σ S1 H1 ad1 → Step S ad S1 ad1 → Rv X.K S1 ad1 v1 x → Rv X.K S1 ad1 v2 y → (∀ S' H' ad' v, Step S1 ad1 S' ad' → Rel X.K fr ρ2 σ S' H' ad' → Rv X.K S' ad' v w → Q v H') → r v1 v2 H1 Q) :
    tOp r (tE X.K ρ x ρ1) (tE X.K ρ1 y ρ2) σ H Q := by
  obtain ⟨fr, S, ad, R, k⟩ := hk
  refine ⟨fr, S, ad, R, fun S1 H1 ad1 v1 st1 R1 rv1 => ⟨fr, S1, ad1, R1, fun S2 H2 ad2 v2 st2 R2 rv2 => ?_⟩⟩
  exact h fr S ad S2 H2 ad2 v1 v2 R2 (st1.trans st2) (rv1.mono st2) rv2 fun S' H' ad' v st => k S' H' ad' v ((st1.trans st2).trans st)
theorem ed_binI {op : Operator} {C : Int → Int → Prop} {g : Int → Int → Int} (ho : OpR X (binaryOp op) (rI C fun i j => .int (g i j))) {i j : Int} (ha : ED X ρ a (.d (.int i)) ρ1) (hb : ED X ρ1 b (.d (.int j)) ρ2) (hc : C i j) :
    ED X ρ (.BinOp a op b pos) (.d (.int (g i j))) ρ2 := ed_of (pe_op ho ha hb) fun σ H Q hk => two_ σ H Q _ hk fun fr S ad S1 H1 ad1 v1 v2 R st r1 r2 k => by
  rw [r1.di, r2.di]; exact ⟨i, j, rfl, rfl, hc, k S1 H1 ad1 _ (.refl _ _) R (.d (.int _))⟩
theorem ed_binI0 {op : Operator} {g : Int → Int → Int} (ho : OpR X (binaryOp op) (rI0 fun i j => .int (g i j))) {i j : Int} (ha : ED X ρ a (.d (.int i)) ρ1) (hb : ED X ρ1 b (.d (.int j)) ρ2) :
    ED X ρ (.BinOp a op b pos) (.d (.int (g i j))) ρ2 := ed_of (pe_op ho ha hb) fun σ H Q hk => two_ σ H Q _ hk fun fr S ad S1 H1 ad1 v1 v2 R st r1 r2 k => by
  rw [r1.di, r2.di]; exact ⟨i, j, rfl, rfl, k S1 H1 ad1 _ (.refl _ _) R (.d (.int _))⟩
theorem ed_add {i j : Int} (ha : ED X ρ a (.d (.int i)) ρ1) (hb : ED X ρ1 b (.d (.int j)) ρ2) : ED X ρ (.BinOp a .Add b pos) (.d (.int (i + j))) ρ2 := ed_binI0 (g := fun i j => i + j) op_add ha hb
theorem ed_sub {i j : Int} (ha : ED X ρ a (.d (.int i)) ρ1) (hb : ED X ρ1 b (.d (.int j)) ρ2) : ED X ρ (.BinOp a .Sub b pos) (.d (.int (i - j))) ρ2 := ed_binI0 (g := fun i j => i - j) op_sub ha hb
theorem ed_mul {i j : Int} (ha : ED X ρ a (.d (.int i)) ρ1) (hb : ED X ρ1 b (.d (.int j)) ρ2) (hc : CMul i j) : ED X ρ (.BinOp a .Mult b pos) (.d (.int (i * j))) ρ2 := ed_binI (g := fun i j => i * j) op_mul ha hb hc
theorem ed_mod {i j : Int} (ha : ED X ρ a (.d (.int i)) ρ1) (hb : ED X ρ1 b (.d (.int j)) ρ2) (hc : 0 < j) : ED X ρ (.BinOp a .Mod b pos) (.d (.int (i % j))) ρ2 := ed_binI (C := fun _ j => 0 < j) (g := fun i j => i % j) op_mod ha hb hc
theorem ed_fdiv {i j : Int} (ha : ED X ρ a (.d (.int i)) ρ1) (hb : ED X ρ1 b (.d (.int j)) ρ2) (hc : CDiv i j) : ED X ρ (.BinOp a .FloorDiv b pos) (.d (.int (i / j))) ρ2 := ed_binI (g := fun i j => i / j) op_fdiv ha hb hc
theorem ed_pow {i j : Int} (ha : ED X ρ a (.d (.int i)) ρ1) (hb : ED X ρ1 b (.d (.int j)) ρ2) (hc : CPow i j) : ED X ρ (.BinOp a .Pow b pos) (.d (.int (i ^ j.toNat))) ρ2 := ed_binI (g := fun i j => i ^ j.toNat) op_pow ha hb hc
theorem ed_neg {i : Int} (ha : ED X ρ a (.d (.int i)) ρ1) : ED X ρ (.UnaryOp .USub a pos) (.d (.int (-i))) ρ1 := ed_of (pe_un un_neg ha) fun σ H Q ⟨fr, S, ad, R, k⟩ => ⟨fr, S, ad, R, fun S1 H1 ad1 v1 st1 R1 r1 => by
  rw [r1.di]; exact ⟨i, rfl, k S1 H1 ad1 _ st1 R1 (.d (.int _))⟩⟩
theorem td_two {r : R2} (σ : L2.St) (H : Hp) (Q : Bool → Hp → Prop) (k0 : Bool) (hk : tT X.K ρ k0 ρ2 σ H Q)
    (h : ∀ fr S ad S1 H1 ad1 v1 v2, Rel X.K fr ρ2 σ S1 H1 ad1 → Step S ad S1 ad1 → Rv X.K S1 ad1 v1 x → Rv X.K S1 ad1 v2 y → ∀ Q' : VK, (∀ S' H' ad', Step S1 ad1 S' ad' → Rel X.K fr ρ2 σ S' H' ad' → Q' (.bl k0) H') → r v1 v2 H1 Q') :
    tTest (tOp r (tE X.K ρ x ρ1) (tE X.K ρ1 y ρ2)) σ H Q := by
  obtain ⟨fr, S, ad, R, k⟩ := hk
  refine ⟨fr, S, ad, R, fun S1 H1 ad1 v1 st1 R1 rv1 => ⟨fr, S1, ad1, R1, fun S2 H2 ad2 v2 st2 R2 rv2 => ?_⟩⟩
  exact h fr S ad S2 H2 ad2 v1 v2 R2 (st1.trans st2) (rv1.mono st2) rv2 _ fun S' H' ad' st R' => ⟨k0, rfl, k S' H' ad' ((st1.trans st2).trans st) R'⟩
/-- an expression of True or False as a test -/
theorem td_val {k : Bool} (h : ED X ρ e (.d (.bl k)) ρ1) (he : ∀ whole, isTrue e X.env whole = (do let v ← whole; standAt e.pos; holding [v] (truthy v)) := by intro _; rfl) : TD X ρ e k ρ1 :=
  td_of (pt_val h he) fun σ H Q ⟨fr, S, ad, R, k'⟩ => ⟨fr, S, ad, R, fun S1 H1 ad1 v1 st1 R1 r1 => by
    rw [r1.db]; exact ⟨k, rfl, k' S1 H1 ad1 st1 R1⟩⟩
theorem td_cmpI {op : CmpOp} {g : Int → Int → Bool} (ho : OpR X (compareOp op) (rI0 fun i j => .bl (g i j))) (hm : behindInMarks op b = false) {i j : Int} (ha : ED X ρ a (.d (.int i)) ρ1) (hb : ED X ρ1 b (.d (.int j)) ρ2) :
    TD X ρ (.Compare a [op] [b] pos) (g i j) ρ2 := td_of (pt_cmpR ho ha hb hm) fun σ H Q hk => td_two σ H Q _ hk fun fr S ad S1 H1 ad1 v1 v2 R st r1 r2 Q' k => by
  rw [r1.di, r2.di]; exact ⟨i, j, rfl, rfl, k S1 H1 ad1 (.refl _ _) R⟩
section
variable {i j : Int} (ha : ED X ρ a (.d (.int i)) ρ1) (hb : ED X ρ1 b (.d (.int j)) ρ2)
include ha hb
theorem td_lt : TD X ρ (.Compare a [.Lt] [b] pos) (decide (i < j)) ρ2 := td_cmpI (g := fun i j => decide (i < j)) op_lt (nomark _) ha hb
theorem td_le : TD X ρ (.Compare a [.LtE] [b] pos) (decide (i ≤ j)) ρ2 := td_cmpI (g := fun i j => decide (i ≤ j)) op_le (nomark _) ha hb
theorem td_gt : TD X ρ (.Compare a [.Gt] [b] pos) (decide (j < i)) ρ2 := td_cmpI (g := fun i j => decide (j < i)) op_gt (nomark _) ha hb
theorem td_ge : TD X ρ (.Compare a [.GtE] [b] pos) (decide (j ≤ i)) ρ2 := td_cmpI (g := fun i j => decide (j ≤ i)) op_ge (nomark _) ha hb
omit ha hb in
omit ha hb in
end
end
end DL

namespace DL
open PySem PySem.Spec PyProof.Rows L2

section
variable {X : Cx} {ρ ρ' ρ1 ρ2 ρ3 : Env} {e a b c : Expr} {es rest : List Expr} {x y z : VD} {pos : Pos} {p q : Bool}
/-! ### and, or, not, if -/
theorem td_not (h : TD X ρ a p ρ1) : TD X ρ (.UnaryOp .Not a pos) (!p) ρ1 := td_of (pt_not h) fun σ H Q ⟨fr, S, ad, R, k⟩ => ⟨fr, S, ad, R, k⟩
theorem tw_and1 (h : TD X ρ a p ρ1) : TW X ρ (.BoolOp .And [a] pos) p ρ1 := pw_and1 h
theorem tw_or1 (h : TD X ρ a p ρ1) : TW X ρ (.BoolOp .Or [a] pos) p ρ1 := pw_or1 h
/-- a reading that holds only under a condition -/
theorem tw_when {P : Prop} {t : TT} (h : P → PW X e t) : PW X e (fun σ H Q => P ∧ t σ H Q) := ⟨fun wh pins s σ H Q I hq => (h hq.1).run wh pins s σ H Q I hq.2⟩
theorem ed_when {P : Prop} {t : TE} (h : P → PE X e t) : PE X e (fun σ H Q => P ∧ t σ H Q) := ⟨fun pins s σ H Q I hq => (h hq.1).run pins s σ H Q I hq.2⟩
theorem tw_and (ha : TD X ρ a p ρ) (hb : p = true → TW X ρ (.BoolOp .And (b :: rest) pos) q ρ) : TW X ρ (.BoolOp .And (a :: b :: rest) pos) (p && q) ρ :=
  tw_of (pw_and ha (tw_when hb)) fun σ H Q ⟨fr, S, ad, R, k⟩ => ⟨fr, S, ad, R, fun S1 H1 ad1 st R1 => by
    cases p with
    | true => exact iteT ⟨rfl, fr, S1, ad1, R1, fun S2 H2 ad2 st2 R2 => k S2 H2 ad2 (st.trans st2) R2⟩
    | false => exact iteF (k S1 H1 ad1 st R1)⟩
theorem tw_or (ha : TD X ρ a p ρ) (hb : p = false → TW X ρ (.BoolOp .Or (b :: rest) pos) q ρ) : TW X ρ (.BoolOp .Or (a :: b :: rest) pos) (p || q) ρ :=
  tw_of (pw_or ha (tw_when hb)) fun σ H Q ⟨fr, S, ad, R, k⟩ => ⟨fr, S, ad, R, fun S1 H1 ad1 st R1 => by
    cases p with
    | true => exact iteT (k S1 H1 ad1 st R1)
    | false => exact iteF ⟨rfl, fr, S1, ad1, R1, fun S2 H2 ad2 st2 R2 => k S2 H2 ad2 (st.trans st2) R2⟩⟩
/-- as values -/
theorem ed_one {op : BoolOp} (h : ED X ρ a x ρ1) : ED X ρ (.BoolOp op [a] pos) x ρ1 := pe_one h
theorem ed_and (ha : ED X ρ a (.d (.bl p)) ρ) (hb : p = true → ED X ρ (.BoolOp .And (b :: rest) pos) (.d (.bl q)) ρ) : ED X ρ (.BoolOp .And (a :: b :: rest) pos) (.d (.bl (p && q))) ρ :=
  ed_of (pe_and ha (ed_when hb)) fun σ H Q ⟨fr, S, ad, R, k⟩ => ⟨fr, S, ad, R, fun S1 H1 ad1 v st R1 r1 => by
    rw [r1.db]
    refine ⟨p, rfl, ?_⟩
    cases p with
    | true => exact iteT ⟨rfl, fr, S1, ad1, R1, fun S2 H2 ad2 v2 st2 R2 r2 => k S2 H2 ad2 v2 (st.trans st2) R2 r2⟩
    | false => exact iteF (k S1 H1 ad1 _ st R1 (.d (.bl _)))⟩
theorem ed_not (ha : ED X ρ a (.d (.bl p)) ρ1) : ED X ρ (.UnaryOp .Not a pos) (.d (.bl (!p))) ρ1 :=
  ed_of (pe_not ha) fun σ H Q ⟨fr, S, ad, R, k⟩ => ⟨fr, S, ad, R, fun S1 H1 ad1 v st R1 r1 => by
    rw [r1.db]
    exact ⟨p, rfl, k S1 H1 ad1 _ st R1 (.d (.bl _))⟩⟩
theorem ed_ifT (hc : TD X ρ c true ρ1) (ha : ED X ρ1 a x ρ2) : ED X ρ (.IfExp c a b pos) x ρ2 := by
  have hb : false = true → PE X b (tE X.K ρ1 x ρ2) := fun z => nomatch z
  exact ed_of (pe_ifExp hc ha (ed_when hb)) fun σ H Q ⟨fr, S, ad, R, k⟩ => ⟨fr, S, ad, R, fun S1 H1 ad1 st R1 =>
    iteT ⟨fr, S1, ad1, R1, fun S2 H2 ad2 v2 st2 R2 r2 => k S2 H2 ad2 v2 (st.trans st2) R2 r2⟩⟩
theorem ed_ifF (hc : TD X ρ c false ρ1) (hb : ED X ρ1 b x ρ2) : ED X ρ (.IfExp c a b pos) x ρ2 := by
  have ha : false = true → PE X a (tE X.K ρ1 x ρ2) := fun z => nomatch z
  exact ed_of (pe_ifExp hc (ed_when ha) hb) fun σ H Q ⟨fr, S, ad, R, k⟩ => ⟨fr, S, ad, R, fun S1 H1 ad1 st R1 =>
    iteF ⟨fr, S1, ad1, R1, fun S2 H2 ad2 v2 st2 R2 r2 => k S2 H2 ad2 v2 (st.trans st2) R2 r2⟩⟩
/-! ### a < b < c of ints -/
theorem chain_ {r r' : R2} {g g' : Int → Int → Bool} {i j k : Int} (er : r = rI0 fun i j => .bl (g i j)) (er' : r' = rI0 fun i j => .bl (g' i j)) {σ : L2.St} {H : Hp} {Q : VK} (hk : tE X.K ρ (.d (.bl (g i j && g' j k))) ρ σ H Q) :
    tChain r r' (tE X.K ρ (.d (.int i)) ρ) (tE X.K ρ (.d (.int j)) ρ) (tE X.K ρ (.d (.int k)) ρ) σ H Q := by
  subst er er'
  obtain ⟨fr, S, ad, R, kk⟩ := hk
  refine ⟨fr, S, ad, R, fun S1 H1 ad1 v1 st1 R1 rv1 => ⟨fr, S1, ad1, R1, fun S2 H2 ad2 v2 st2 R2 rv2 => ?_⟩⟩
  rw [rv1.di, rv2.di]
  refine ⟨i, j, rfl, rfl, g i j, rfl, ?_⟩
  cases q : g i j with
  | false =>
    rw [q] at kk
    exact iteF (kk S2 H2 ad2 _ (st1.trans st2) R2 (.d (.bl _)))
  | true =>
    rw [q] at kk
    refine iteT ⟨fr, S2, ad2, R2, fun S3 H3 ad3 v3 st3 R3 rv3 => ?_⟩
    rw [rv3.di]
    exact ⟨j, k, rfl, rfl, kk S3 H3 ad3 _ ((st1.trans st2).trans st3) R3 (.d (.bl _))⟩
theorem ed_chain {op op' : CmpOp} {g g' : Int → Int → Bool} (ho : OpR X (compareOp op) (rI0 fun i j => .bl (g i j))) (ho' : OpR X (compareOp op') (rI0 fun i j => .bl (g' i j))) {i j k : Int}
    (ha : ED X ρ a (.d (.int i)) ρ) (hb : ED X ρ b (.d (.int j)) ρ) (hc : ED X ρ c (.d (.int k)) ρ) (hm : lastMarks [op, op'] [b, c] = false := by with_unfolding_all rfl) : ED X ρ (.Compare a [op, op'] [b, c] pos) (.d (.bl (g i j && g' j k))) ρ :=
  ed_of (pe_chain ho ho' ha hb hc hm) fun σ H Q hk => chain_ rfl rfl hk
theorem td_chain {op op' : CmpOp} {g g' : Int → Int → Bool} (ho : OpR X (compareOp op) (rI0 fun i j => .bl (g i j))) (ho' : OpR X (compareOp op') (rI0 fun i j => .bl (g' i j))) {i j k : Int}
    (ha : ED X ρ a (.d (.int i)) ρ) (hb : ED X ρ b (.d (.int j)) ρ) (hc : ED X ρ c (.d (.int k)) ρ) (hm : lastMarks [op, op'] [b, c] = false := by with_unfolding_all rfl) : TD X ρ (.Compare a [op, op'] [b, c] pos) (g i j && g' j k) ρ :=
  td_of (pt_chain ho ho' ha hb hc hm) fun σ H Q ⟨fr, S, ad, R, kk⟩ => chain_ rfl rfl ⟨fr, S, ad, R, fun S1 H1 ad1 v1 st1 R1 rv1 => by rw [rv1.db]; exact ⟨_, rfl, kk S1 H1 ad1 st1 R1⟩⟩
section
variable {i j k : Int} (ha : ED X ρ a (.d (.int i)) ρ) (hb : ED X ρ b (.d (.int j)) ρ) (hc : ED X ρ c (.d (.int k)) ρ)
include ha hb hc
theorem ed_lele (hm : lastMarks [.LtE, .LtE] [b, c] = false := by with_unfolding_all rfl) : ED X ρ (.Compare a [.LtE, .LtE] [b, c] pos) (.d (.bl (decide (i ≤ j) && decide (j ≤ k)))) ρ := ed_chain (g := fun i j => decide (i ≤ j)) (g' := fun i j => decide (i ≤ j)) op_le op_le ha hb hc hm
theorem td_ltle (hm : lastMarks [.Lt, .LtE] [b, c] = false := by with_unfolding_all rfl) : TD X ρ (.Compare a [.Lt, .LtE] [b, c] pos) (decide (i < j) && decide (j ≤ k)) ρ := td_chain (g := fun i j => decide (i < j)) (g' := fun i j => decide (i ≤ j)) op_lt op_le ha hb hc hm
end
/-! ### equality of scalars; is None -/
def D.sc : D → Option V
  | .non => some .non | .bl b => some (.bl b) | .int i => some (.int i) | .str s => some (.str s)
  | _ => none
theorem Rp.sc {K : PySem.W.Frag} {S : Hp} {v w : V} {d : D} (h : Rp K S v d) (e : d.sc = some w) : v = w := by
  cases h <;> simp [D.sc] at e <;> exact e
/-- the scalars that == tells apart as data -/
def scD : D → D → Bool
  | .int _, .int _ | .bl _, .bl _ | .str _, .str _ | .non, .non | .int _, .str _ | .str _, .int _ | .non, .int _ | .int _, .non | .non, .str _ | .str _, .non | .non, .bl _ | .bl _, .non => true
  | _, _ => false
def eqSc : D → D → Bool
  | .int i, .int j => decide (i = j)
  | .bl i, .bl j => decide (i = j)
  | .str i, .str j => decide (i = j)
  | .non, .non => true
  | _, _ => false
theorem scD_ok {K : PySem.W.Frag} {S S' : Hp} {v w : V} {d d' : D} (h : Rp K S v d) (h' : Rp K S' w d') (e : scD d d' = true) : scal v w = true ∧ decide (v = w) = eqSc d d' := by
  cases h <;> cases h' <;> first | (simp [scD] at e; done) | (simp [scal, eqSc])
theorem ed_eqS {d d' : D} (ha : ED X ρ a (.d d) ρ1) (hb : ED X ρ1 b (.d d') ρ2) (h : scD d d' = true) : ED X ρ (.Compare a [.Eq] [b] pos) (.d (.bl (eqSc d d'))) ρ2 :=
  ed_of (pe_cmpR op_eq ha hb (nomark _)) fun σ H Q hk => two_ σ H Q _ hk fun fr S ad S1 H1 ad1 v1 v2 R st r1 r2 k => by
    obtain ⟨h1, h2⟩ := scD_ok r1.dd r2.dd h
    exact ⟨h1, by rw [h2]; exact k S1 H1 ad1 _ (.refl _ _) R (.d (.bl _))⟩
theorem td_eqS {d d' : D} (ha : ED X ρ a (.d d) ρ1) (hb : ED X ρ1 b (.d d') ρ2) (h : scD d d' = true) : TD X ρ (.Compare a [.Eq] [b] pos) (eqSc d d') ρ2 :=
  td_of (pt_cmpR op_eq ha hb (nomark _)) fun σ H Q hk => td_two σ H Q _ hk fun fr S ad S1 H1 ad1 v1 v2 R st r1 r2 Q' k => by
    obtain ⟨h1, h2⟩ := scD_ok r1.dd r2.dd h
    exact ⟨h1, by rw [h2]; exact k S1 H1 ad1 (.refl _ _) R⟩
theorem td_neS {d d' : D} (ha : ED X ρ a (.d d) ρ1) (hb : ED X ρ1 b (.d d') ρ2) (h : scD d d' = true) : TD X ρ (.Compare a [.NotEq] [b] pos) (!eqSc d d') ρ2 :=
  td_of (pt_cmpR op_ne ha hb (nomark _)) fun σ H Q hk => td_two σ H Q _ hk fun fr S ad S1 H1 ad1 v1 v2 R st r1 r2 Q' k => by
    obtain ⟨h1, h2⟩ := scD_ok r1.dd r2.dd h
    exact ⟨h1, by rw [h2]; exact k S1 H1 ad1 (.refl _ _) R⟩
def D.isNone : D → Bool
  | .non => true
  | _ => false
theorem isNone_ok {K : PySem.W.Frag} {S : Hp} {v : V} {d : D} (h : Rp K S v d) : decide (v = .non) = d.isNone := by
  cases h <;> simp [D.isNone]
theorem td_isN {d : D} {j : Nat} {pos' : Pos} (ha : ED X ρ a (.d d) ρ1) : TD X ρ (.Compare a [.Is] [.Constant .none j pos'] pos) d.isNone ρ1 :=
  td_of (pt_cmpR op_isN ha (pe_non (X := X)) (nomark _)) fun σ H Q ⟨fr, S, ad, R, k⟩ => ⟨fr, S, ad, R, fun S1 H1 ad1 v1 st1 R1 r1 => ⟨rfl, by
    refine ⟨_, rfl, ?_⟩
    rw [isNone_ok r1.dd]; exact k S1 H1 ad1 st1 R1⟩⟩
/-! ### argument lists and displays -/
theorem ad_nil : AD X ρ [] [] ρ := ad_of pa_nil fun σ H Q ⟨fr, S, ad, R, k⟩ => k S H ad [] (.refl _ _) R .nil
theorem ad_cons {xs : List VD} (ha : ED X ρ a x ρ1) (hr : AD X ρ1 es xs ρ2) (hs : starEach (a :: es) X.env = (false, eval a X.env) :: starEach es X.env := by rfl) : AD X ρ (a :: es) (x :: xs) ρ2 :=
  ad_of (pa_cons ha hr hs) fun σ H Q ⟨fr, S, ad, R, k⟩ => ⟨fr, S, ad, R, fun S1 H1 ad1 v1 st1 R1 r1 => ⟨fr, S1, ad1, R1, fun S2 H2 ad2 vs st2 R2 r2 => k S2 H2 ad2 _ (st1.trans st2) R2 (.cons (r1.mono st2) r2)⟩⟩
inductive AllD : List VD → List D → Prop
  | nil : AllD [] []
  | cons {d : D} {xs : List VD} {ds : List D} : AllD xs ds → AllD (.d d :: xs) (d :: ds)
theorem AllD.rp {K : PySem.W.Frag} {S : Hp} {ad : List Addr} : ∀ {vs : List V} {xs : List VD} {ds : List D}, AllD xs ds → RvAll K S ad vs xs → RpAll K S vs ds
  | _, _, _, .nil, h => by cases h; exact .nil
  | _, _, _, .cons a, h => by
    cases h with
    | cons r t => exact .cons r.dd (a.rp t)
theorem AllD.length {xs : List VD} {ds : List D} : AllD xs ds → xs.length = ds.length
  | .nil => rfl
  | .cons h => by simp [h.length]
theorem AllD.of_map : ∀ (ds : List D), AllD (ds.map VD.d) ds
  | [] => .nil
  | _ :: ds => .cons (.of_map ds)
theorem ed_tup {xs : List VD} {ds : List D} {k1} (h : AD X ρ es xs ρ1) (hd : AllD xs ds) (hz : ds.length ≤ sizeLine := by decide) : ED X ρ (.Tuple es k1 pos) (.d (.tup ds)) ρ1 :=
  ed_of (pe_tup h) fun σ H Q ⟨fr, S, ad, R, k⟩ => ⟨fr, S, ad, R, fun S1 H1 ad1 vs st1 R1 r1 => ⟨by rw [r1.length, hd.length]; exact hz, fun p hp => by
    obtain ⟨R2, st2⟩ := R1.newS (o := .tup vs) hp
    exact k _ _ ad1 _ (st1.trans st2) R2 (.d (.tup upd_same ((hd.rp r1).mono st2.s)))⟩⟩
theorem ed_lst {xs : List VD} {ds : List D} (h : AD X ρ es xs ρ1) (hd : AllD xs ds) (hz : ds.length ≤ sizeLine := by decide) : ED X ρ (.List es pos) (.d (.lst ds)) ρ1 :=
  ed_of (pe_lst h) fun σ H Q ⟨fr, S, ad, R, k⟩ => ⟨fr, S, ad, R, fun S1 H1 ad1 vs st1 R1 r1 => ⟨by rw [r1.length, hd.length]; exact hz, fun p hp => by
    obtain ⟨R2, st2⟩ := R1.newS (o := .lst vs) hp
    exact k _ _ ad1 _ (st1.trans st2) R2 (.d (.lst (SqL.of upd_same) ((hd.rp r1).mono st2.s)))⟩⟩
/-- a new list that is ours -/
theorem ed_lstO {xs : List VD} {ds : List D} (h : AD X ρ es xs ρ1) (hd : AllD xs ds) (hz : ds.length ≤ sizeLine := by decide) : ED X ρ (.List es pos) (.loc ρ1.ow.length) { ρ1 with ow := ρ1.ow ++ [some (.lst ds)] } :=
  ed_of (pe_lst h) fun σ H Q ⟨fr, S, ad, R, k⟩ => ⟨fr, S, ad, R, fun S1 H1 ad1 vs st1 R1 r1 => ⟨by rw [r1.length, hd.length]; exact hz, fun p hp => by
    obtain ⟨R2, st2, e⟩ := R1.newO (p := p) (ho := .lst vs) (o := .lst ds) hp (hd.rp r1)
    exact k _ _ _ _ (st1.trans st2) R2 (.loc e)⟩⟩
end
end DL

namespace DL
open PySem PySem.Spec PyProof.Rows L2

/-! ### statements -/
structure Kn where
  nx : Env → Prop
  rt : D → List (Option OD) → Prop
  bk : Env → Prop := fun _ => False
  ct : Env → Prop := fun _ => False
  /-- the n-th object of ours is handed back -/
  ro : Nat → Env → Prop := fun _ _ => False
structure KnOk (K : PySem.W.Frag) (fr : Fr) (k : Kn) (Dn : Ends) : Prop where
  nx : ∀ ρ σ S H ad, k.nx ρ → Rel K fr ρ σ S H ad → Dn.nx σ H
  rt : ∀ d ρ σ S H ad v, k.rt d ρ.ow → Rel K fr ρ σ S H ad → Rp K S v d → Dn.rt v H
  bk : ∀ ρ σ S H ad, k.bk ρ → Rel K fr ρ σ S H ad → Dn.bk σ H
  ct : ∀ ρ σ S H ad, k.ct ρ → Rel K fr ρ σ S H ad → Dn.ct σ H
  ro : ∀ n ρ σ S H ad l, k.ro n ρ → Rel K fr ρ σ S H ad → ad[n]? = some l → Dn.rt (.ref l) H
def tS (K : PySem.W.Frag) (ρ : Env) (k : Kn) : TS := fun Dn σ H => ∃ fr S ad, Rel K fr ρ σ S H ad ∧ KnOk K fr k Dn
def SD (X : Cx) (ρ : Env) (st : Stmt) (k : Kn) : Prop := PS X st (tS X.K ρ k)
def SDs (X : Cx) (ρ : Env) (sts : List Stmt) (k : Kn) : Prop := PSs X sts (tS X.K ρ k)
/-- a target takes a value; the slots at vs are stored -/
def tG (K : PySem.W.Frag) (vs : List Nat) (ρ : Env) (x : VD) (ρ' : Env) : TG := fun v σ H Q => ∃ fr S ad, Rel K fr ρ σ S H ad ∧ Rv K S ad v x ∧
  ∀ σ' S' H' ad', Step S ad S' ad' → Rel K fr ρ' σ' S' H' ad' → σ'.length = σ.length → (∀ j, j ∉ vs → σ'[j]? = σ[j]?) → Q σ' H'
def GD (X : Cx) (vs : List Nat) (ρ : Env) (tg : Expr) (x : VD) (ρ' : Env) : Prop := PG X tg (tG X.K vs ρ x ρ')
def tGs (K : PySem.W.Frag) (vs : List Nat) (ρ : Env) (xs : List VD) (ρ' : Env) : TGs := fun ws σ H Q => ∃ fr S ad, Rel K fr ρ σ S H ad ∧ RvAll K S ad ws xs ∧
  ∀ σ' S' H' ad', Step S ad S' ad' → Rel K fr ρ' σ' S' H' ad' → σ'.length = σ.length → (∀ j, j ∉ vs → σ'[j]? = σ[j]?) → Q σ' H'
def GDs (X : Cx) (vs : List Nat) (ρ : Env) (tg : List Expr) (xs : List VD) (ρ' : Env) : Prop := PGs X tg (tGs X.K vs ρ xs ρ')
section
variable {X : Cx} {ρ ρ' ρ1 ρ2 ρ3 : Env} {e a b c : Expr} {es rest : List Expr} {x y z : VD} {pos : Pos} {p q : Bool} {st : Stmt} {r body orelse : List Stmt} {k : Kn}
theorem sd_of {t : TS} (h : PS X st t) (q : ∀ Dn σ H, tS X.K ρ k Dn σ H → t Dn σ H) : SD X ρ st k := ⟨fun pins s σ H Dn I hq => h.run pins s σ H Dn I (q Dn σ H hq)⟩
theorem sds_of {t : TS} (h : PSs X r t) (q : ∀ Dn σ H, tS X.K ρ k Dn σ H → t Dn σ H) : SDs X ρ r k := ⟨fun pins s σ H Dn I hq => h.run pins s σ H Dn I (q Dn σ H hq)⟩
theorem gd_of {t : TG} {tg : Expr} {vs : List Nat} (h : PG X tg t) (q : ∀ v σ H Q, tG X.K vs ρ x ρ' v σ H Q → t v σ H Q) : GD X vs ρ tg x ρ' := ⟨fun pins s σ H v u Q I rv hq => h.run pins s σ H v u Q I rv (q v σ H Q hq)⟩
/-- weaker wishes -/
theorem KnOk.imp {K : PySem.W.Frag} {fr : Fr} {k k' : Kn} {Dn : Ends} (h : KnOk K fr k Dn) (h1 : ∀ ρ, k'.nx ρ → k.nx ρ) (h2 : ∀ d o, k'.rt d o → k.rt d o) (h3 : ∀ ρ, k'.bk ρ → k.bk ρ) (h4 : ∀ ρ, k'.ct ρ → k.ct ρ) (h5 : ∀ n ρ, k'.ro n ρ → k.ro n ρ) : KnOk K fr k' Dn :=
  ⟨fun ρ σ S H ad q => h.nx ρ σ S H ad (h1 ρ q), fun d ρ σ S H ad v q => h.rt d ρ σ S H ad v (h2 d _ q), fun ρ σ S H ad q => h.bk ρ σ S H ad (h3 ρ q), fun ρ σ S H ad q => h.ct ρ σ S H ad (h4 ρ q), fun n ρ σ S H ad l q => h.ro n ρ σ S H ad l (h5 n ρ q)⟩
theorem SDs.imp {k k' : Kn} (h : SDs X ρ r k') (h1 : ∀ ρ, k'.nx ρ → k.nx ρ) (h2 : ∀ d o, k'.rt d o → k.rt d o) (h3 : ∀ ρ, k'.bk ρ → k.bk ρ := by intro _ h; exact h) (h4 : ∀ ρ, k'.ct ρ → k.ct ρ := by intro _ h; exact h) (h5 : ∀ n ρ, k'.ro n ρ → k.ro n ρ := by intro _ _ h; first | exact h | exact h.elim) : SDs X ρ r k :=
  sds_of h fun Dn σ H ⟨fr, S, ad, R, kk⟩ => ⟨fr, S, ad, R, kk.imp h1 h2 h3 h4 h5⟩
/-- a reading by any of several states -/
theorem pss_any {P : Env → Kn → Prop} (h : ∀ ρ k, P ρ k → SDs X ρ r k) : PSs X r (fun Dn σ H => ∃ ρ k, P ρ k ∧ tS X.K ρ k Dn σ H) := ⟨fun pins s σ H Dn I ⟨ρ, k, hp, hq⟩ => (h ρ k hp).run pins s σ H Dn I hq⟩
theorem sds_nil (h : k.nx ρ) : SDs X ρ [] k := sds_of pss_nil fun Dn σ H ⟨fr, S, ad, R, kk⟩ => kk.nx ρ σ S H ad h R
theorem sds_cons (h : SD X ρ st { k with nx := fun ρ' => SDs X ρ' r k }) : SDs X ρ (st :: r) k :=
  sds_of (pss_cons h (pss_any (P := fun ρ' k' => SDs X ρ' r k' ∧ k' = k) fun _ _ h => h.1)) fun Dn σ H ⟨fr, S, ad, R, kk⟩ =>
    ⟨fr, S, ad, R, fun ρ' σ' S' H' ad' hn R' => ⟨ρ', k, ⟨hn, rfl⟩, fr, S', ad', R', kk⟩, kk.rt, kk.bk, kk.ct, kk.ro⟩
/-- the rest is never reached -/
theorem sds_end {t : TS} (h : PS X st t) (q : ∀ Dn σ H, tS X.K ρ k Dn σ H → ∀ nx, t { Dn with nx := nx } σ H) : SDs X ρ (st :: r) k :=
  sds_of (pss_cons h pss_never) fun Dn σ H hq => q Dn σ H hq _
/-- return e -/
theorem sds_ret {d : D} (he : ED X ρ e (.d d) ρ1) (h : k.rt d ρ1.ow) : SDs X ρ (.Return (some e) pos :: r) k :=
  sds_end (ps_ret he) fun Dn σ H ⟨fr, S, ad, R, kk⟩ nx => ⟨fr, S, ad, R, fun S1 H1 ad1 v st R1 r1 => kk.rt d ρ1 σ S1 H1 ad1 v h R1 r1.dd⟩
/-- e; -/
theorem sds_expr (he : ED X ρ e x ρ1) (h : SDs X ρ1 r k) (hs : swapsWith e none pos.line X.env = pure false := by rfl) : SDs X ρ (.Expr e pos :: r) k :=
  sds_cons (sd_of (ps_expr he hs) fun Dn σ H ⟨fr, S, ad, R, kk⟩ => ⟨fr, S, ad, R, fun S1 H1 ad1 v st R1 r1 => kk.nx ρ1 σ S1 H1 ad1 h R1⟩)
def Env.put (ρ : Env) (i : Nat) (x : VD) : Env := { ρ with sl := ρ.sl.set i (some x) }
/-- name = e -/
theorem sds_set (i : Nat) {n : Str} {pos' : Pos} (he : ED X ρ e x ρ1) (h : SDs X (ρ1.put i x) r k) (hN : X.N.Nodup) (hi : X.N[i]? = some n) (hx : Loc X.env.scope n) (hs : swapsWith e (some (.Name n pos')) pos.line X.env = pure false)
    (hf : X.fn n = true ∨ X.env.scope.names.lookup n = some .local) : SDs X ρ (.Assign [.Name n pos'] e pos :: r) k :=
  sds_cons (sd_of (ps_set hN hi hx he hs hf) fun Dn σ H ⟨fr, S, ad, R, kk⟩ => ⟨fr, S, ad, R, fun S1 H1 ad1 v st R1 r1 => kk.nx (ρ1.put i x) _ S1 H1 ad1 h (R1.setSl r1)⟩)
/-- name op= e (ints) -/
theorem sds_augI (i : Nat) {n : Str} {pos' : Pos} {op : Operator} {f : Int → Int → Int} {u w : Int} (ho : PIp X op (ipI f)) (hv : ρ.sl[i]? = some (some (.d (.int u)))) (he : ED X ρ e (.d (.int w)) ρ1) (h : SDs X (ρ1.put i (.d (.int (f u w)))) r k) (hN : X.N.Nodup) (hi : X.N[i]? = some n) (hx : Loc X.env.scope n)
    (hf : X.fn n = true ∨ X.env.scope.names.lookup n = some .local) : SDs X ρ (.AugAssign (.Name n pos') op e pos :: r) k :=
  sds_cons (sd_of (ps_aug hN hi hx he ho hf) fun Dn σ H ⟨fr, S, ad, R, kk⟩ => by
    obtain ⟨v, e1, e2⟩ := R.slots i _ hv
    rw [e2.di] at e1
    exact ⟨_, e1, fr, S, ad, R, fun S1 H1 ad1 v1 st R1 r1 => by
      rw [r1.di]
      exact ⟨u, w, rfl, rfl, kk.nx (ρ1.put i (.d (.int (f u w)))) _ S1 H1 ad1 h (R1.setSl (.d (.int _)))⟩⟩)
/-- a, b = e1, e2 -/
theorem sds_par (i j : Nat) {m n : Str} {px py pt : Pos} {kt k2 pt2} (ha : AD X ρ [a, b] [x, y] ρ1) (h : SDs X ((ρ1.put i x).put j y) r k) (hc : X.calm = true) (hN : X.N.Nodup) (hi : X.N[i]? = some m) (hj : X.N[j]? = some n) (hij : i ≠ j)
    (hx : X.env.scope.names.lookup m = some .local) (hy : X.env.scope.names.lookup n = some .local)
    (hw : swappedStores [.Tuple [.Name m px, .Name n py] kt pt] (.Tuple [a, b] k2 pt2) X.env = pure (some [m, n]))
    (hs : swapsWithSole [.Tuple [.Name m px, .Name n py] kt pt] (.Tuple [a, b] k2 pt2) pos.line X.env = pure false) : SDs X ρ (.Assign [.Tuple [.Name m px, .Name n py] kt pt] (.Tuple [a, b] k2 pt2) pos :: r) k :=
  sds_cons (sd_of (ps_par hc hN hi hj hij hx hy ha hw hs) fun Dn σ H ⟨fr, S, ad, R, kk⟩ => ⟨fr, S, ad, R, fun S1 H1 ad1 vs st R1 r1 => by
    cases r1 with
    | cons r1 t1 =>
      cases t1 with
      | cons r2 t2 =>
        cases t2
        exact ⟨_, _, rfl, kk.nx _ _ S1 H1 ad1 h ((R1.setSl r1).setSl r2)⟩⟩)
theorem sds_par3 (i j l : Nat) {m n o : Str} {px py pz pt : Pos} {kt k2 pt2} (ha : AD X ρ [a, b, c] [x, y, z] ρ1) (h : SDs X (((ρ1.put i x).put j y).put l z) r k) (hc : X.calm = true) (hN : X.N.Nodup) (hi : X.N[i]? = some m) (hj : X.N[j]? = some n) (hl : X.N[l]? = some o) (hij : i ≠ j) (hil : i ≠ l) (hjl : j ≠ l)
    (hx : X.env.scope.names.lookup m = some .local) (hy : X.env.scope.names.lookup n = some .local) (hz : X.env.scope.names.lookup o = some .local)
    (hw : swappedStores [.Tuple [.Name m px, .Name n py, .Name o pz] kt pt] (.Tuple [a, b, c] k2 pt2) X.env = pure (some [m, n, o]))
    (hs : swapsWithSole [.Tuple [.Name m px, .Name n py, .Name o pz] kt pt] (.Tuple [a, b, c] k2 pt2) pos.line X.env = pure false) : SDs X ρ (.Assign [.Tuple [.Name m px, .Name n py, .Name o pz] kt pt] (.Tuple [a, b, c] k2 pt2) pos :: r) k :=
  sds_cons (sd_of (ps_par3 hc hN hi hj hl hij hil hjl hx hy hz ha hw hs) fun Dn σ H ⟨fr, S, ad, R, kk⟩ => ⟨fr, S, ad, R, fun S1 H1 ad1 vs st R1 r1 => by
    cases r1 with
    | cons r1 t1 =>
      cases t1 with
      | cons r2 t2 =>
        cases t2 with
        | cons r3 t3 =>
          cases t3
          exact ⟨_, _, _, rfl, kk.nx _ _ S1 H1 ad1 h (((R1.setSl r1).setSl r2).setSl r3)⟩⟩)
/-- if -/
theorem sds_if (hc : TD X ρ c p ρ1) (ha : p = true → SDs X ρ1 body { k with nx := fun ρ' => SDs X ρ' r k }) (hb : p = false → SDs X ρ1 orelse { k with nx := fun ρ' => SDs X ρ' r k }) : SDs X ρ (.If c body orelse pos :: r) k := by
  refine sds_cons (sd_of (ps_if hc (pss_any (P := fun ρ' k' => p = true ∧ ρ' = ρ1 ∧ k' = { k with nx := fun ρ' => SDs X ρ' r k }) fun ρ' k' h => ?_) (pss_any (P := fun ρ' k' => p = false ∧ ρ' = ρ1 ∧ k' = { k with nx := fun ρ' => SDs X ρ' r k }) fun ρ' k' h => ?_)) fun Dn σ H ⟨fr, S, ad, R, kk⟩ => ⟨fr, S, ad, R, fun S1 H1 ad1 st R1 => ?_⟩)
  · obtain ⟨h1, rfl, rfl⟩ := h; exact ha h1
  · obtain ⟨h1, rfl, rfl⟩ := h; exact hb h1
  · cases p with
    | true => exact iteT ⟨ρ1, _, ⟨rfl, rfl, rfl⟩, fr, S1, ad1, R1, kk⟩
    | false => exact iteF ⟨ρ1, _, ⟨rfl, rfl, rfl⟩, fr, S1, ad1, R1, kk⟩
/-- an object of ours is given up: it is data from now on -/
def fzV (n : Nat) (d : D) : VD → VD
  | .loc j => if j = n then .d d else .loc j
  | .d x => .d x
def fzO (n : Nat) (d : D) : OD → OD
  | .ins C ns xs => .ins C ns (xs.map (fzV n d))
  | o => o
def Env.fz (ρ : Env) (n : Nat) (d : D) : Env := { ρ with sl := ρ.sl.map (Option.map (fzV n d)), ow := (ρ.ow.set n none).map (Option.map (fzO n d)) }
/-- what an object holds, as data -/
inductive ODD : OD → D → Prop
  | lst (ds : List D) : ODD (.lst ds) (.lst ds)
  | ins (C : Addr) (ns : List Str) {xs : List VD} {ds : List D} : AllD xs ds → ODD (.ins C ns xs) (.ins C ns ds)
theorem fzV_ok {K : PySem.W.Frag} {S : Hp} {ad : List Addr} {n : Nat} {l : Addr} {d : D} (hl : ad[n]? = some l) (hr : Rp K S (.ref l) d) {v : V} {x : VD} (h : Rv K S ad v x) : Rv K S ad v (fzV n d x) := by
  cases h with
  | d h => exact .d h
  | @loc j l' h =>
    show Rv K S ad (.ref l') (if j = n then .d d else .loc j)
    by_cases e : j = n
    · subst e
      rw [h] at hl; cases hl
      rw [if_pos rfl]; exact .d hr
    · rw [if_neg e]; exact .loc h
theorem fzAll_ok {K : PySem.W.Frag} {S : Hp} {ad : List Addr} {n : Nat} {l : Addr} {d : D} (hl : ad[n]? = some l) (hr : Rp K S (.ref l) d) : ∀ {vs : List V} {xs : List VD}, RvAll K S ad vs xs → RvAll K S ad vs (xs.map (fzV n d))
  | _, _, .nil => .nil
  | _, _, .cons h t => .cons (fzV_ok hl hr h) (fzAll_ok hl hr t)
theorem Rel.fz {K : PySem.W.Frag} {fr : Fr} {ρ : Env} {σ : L2.St} {S H : Hp} {ad : List Addr} (R : Rel K fr ρ σ S H ad) {n : Nat} {o : OD} {d : D} (hn : ρ.ow[n]? = some (some o)) (hd : ODD o d) (hm : ρ.m ≤ n) :
    ∃ S' l, Step S ad S' ad ∧ Rel K fr (ρ.fz n d) σ S' H ad ∧ ad[n]? = some l ∧ Rp K S' (.ref l) d := by
  obtain ⟨l, ho, e1, e2, e3, e4, e5⟩ := R.own n o hn
  have hst : Step S ad (upd S l ho) ad := ⟨.new e2, [], by simp⟩
  have hlt := (List.getElem?_eq_some_iff.mp hn).1
  have rp : Rp K (upd S l ho) (.ref l) d := by
    have e4 := e4.mono hst
    cases hd with
    | lst ds => cases ho <;> first | exact e4.elim | exact .lst (SqL.of upd_same) e4
    | ins C ns hA =>
      cases ho <;> first | exact e4.elim | skip
      obtain ⟨h0, vs, h1, h2, h3⟩ := e4
      subst h0 h1
      exact .ins upd_same h2 (hA.rp h3)
  refine ⟨upd S l ho, l, hst, ⟨⟨R.grow.s.trans hst.s, fun a u e => ?_, R.grow.h, fun a h1 h2 h3 => ?_⟩, fun i x e => ?_, fun j u e => ?_, R.mm, R.nd, ?_, ?_, fun j hj => ?_, R.lv⟩, e1, rp⟩
  · by_cases h : a = l
    · subst h; rw [upd_same] at e; cases e; exact e3
    · rw [upd_ne h] at e; exact R.grow.sh a u e
  · have ne : a ≠ l := fun z => h2 (z ▸ e5 hm)
    rw [upd_ne ne]; exact R.grow.n a h1 h2 h3
  · have e' : (ρ.sl.map (Option.map (fzV n d)))[i]? = some (some x) := e
    rw [List.getElem?_map] at e'
    cases q : ρ.sl[i]? with
    | none => rw [q] at e'; cases e'
    | some y =>
      rw [q] at e'
      cases y with
      | none => cases e'
      | some y =>
        have e'' : fzV n d y = x := by simpa using e'
        obtain ⟨v, f1, f2⟩ := R.slots i y q
        exact ⟨v, f1, e'' ▸ fzV_ok e1 rp (f2.mono hst)⟩
  · have e' : ((ρ.ow.set n none).map (Option.map (fzO n d)))[j]? = some (some u) := e
    rw [List.getElem?_map] at e'
    by_cases hj : j = n
    · subst hj
      rw [List.getElem?_set_self hlt] at e'; cases e'
    · rw [List.getElem?_set_ne (Ne.symm hj)] at e'
      cases q : ρ.ow[j]? with
      | none => rw [q] at e'; cases e'
      | some y =>
        rw [q] at e'
        cases y with
        | none => cases e'
        | some y =>
          have e'' : fzO n d y = u := by simpa using e'
          obtain ⟨l2, u2, f1, f2, f3, f4, f5⟩ := R.own j y q
          have ne : l2 ≠ l := fun z => by subst z; exact hj (nodup_ixA R.nd f1 e1)
          refine ⟨l2, u2, f1, by rw [upd_ne ne]; exact f2, f3, ?_, f5⟩
          have f4 := f4.mono hst
          subst e''
          cases u2 <;> cases y <;> first | exact f4.elim | exact f4 | skip
          obtain ⟨h0, vs, h1, h2, h3⟩ := f4
          exact ⟨h0, vs, h1, h2, fzAll_ok e1 rp h3⟩
  · show (ρ.sl.map _).length = _
    rw [List.length_map]; exact R.len
  · show _ = ((ρ.ow.set n none).map _).length
    rw [List.length_map, List.length_set]; exact R.al
  · obtain ⟨o', e⟩ := R.ml j hj
    have hj2 : ρ.m = (ρ.fz n d).m := rfl
    have hj' : j ≠ n := by
      have : j < ρ.m := hj
      omega
    refine ⟨fzO n d o', ?_⟩
    show ((ρ.ow.set n none).map (Option.map (fzO n d)))[j]? = _
    rw [List.getElem?_map, List.getElem?_set_ne (Ne.symm hj'), e]; rfl
/-- give an object up -/
theorem sds_fz (n : Nat) {o : OD} {d : D} (hn : ρ.ow[n]? = some (some o)) (hd : ODD o d) (hm : ρ.m ≤ n) (h : SDs X (ρ.fz n d) r k) : SDs X ρ r k :=
  sds_of h fun Dn σ H ⟨fr, S, ad, R, kk⟩ => by
    obtain ⟨S', l, _, R', _⟩ := R.fz hn hd hm
    exact ⟨fr, S', ad, R', kk⟩
/-- an expression's object, given up -/
theorem ED.fz {n : Nat} {o : OD} {d : D} (he : ED X ρ e (.loc n) ρ1) (hn : ρ1.ow[n]? = some (some o)) (hd : ODD o d) (hm : ρ1.m ≤ n) : ED X ρ e (.d d) (ρ1.fz n d) :=
  ed_of he fun σ H Q ⟨fr, S, ad, R, kk⟩ => ⟨fr, S, ad, R, fun S1 H1 ad1 v st R1 r1 => by
    obtain ⟨S2, l, st2, R2, e1, rp⟩ := R1.fz hn hd hm
    obtain ⟨l', e2, e3⟩ := r1.dl
    rw [e1] at e3; cases e3
    subst e2
    exact kk S2 H1 ad1 _ (st.trans st2) R2 (.d rp)⟩
/-- the state seen otherwise (an equal one) -/
theorem sds_eq (h : SDs X ρ1 r k) (e : ρ = ρ1) : SDs X ρ r k := e ▸ h
/-! ### targets -/
theorem gd_name (i : Nat) {n : Str} (hN : X.N.Nodup) (hi : X.N[i]? = some n) (hx : Loc X.env.scope n) (hf : X.fn n = true ∨ X.env.scope.names.lookup n = some .local) : GD X [i] ρ (.Name n pos) x (ρ.put i x) :=
  gd_of (pg_name hN hi hx hf) fun v σ H Q ⟨fr, S, ad, R, rv, k⟩ => k _ S H ad (.refl _ _) (R.setSl rv) (by simp) fun j hj => List.getElem?_set_ne (by simp at hj; exact fun z => hj z.symm)
theorem gds_nil : GDs X [] ρ [] [] ρ := ⟨fun pins s σ H vs us Q I rv ⟨fr, S, ad, R, rs, k⟩ => by
  cases rs
  exact pgs_nil.run pins s σ H [] us Q I rv ⟨rfl, k σ S H ad (.refl _ _) R rfl fun _ _ => rfl⟩⟩
theorem gds_cons {vs ws : List Nat} {xs : List VD} (h1 : GD X vs ρ e x ρ1) (h2 : GDs X ws ρ1 es xs ρ2) (hs : (assignEach (e :: es) X.env).map (·.2) = assign e X.env :: (assignEach es X.env).map (·.2) := by rfl) : GDs X (vs ++ ws) ρ (e :: es) (x :: xs) ρ2 :=
  ⟨fun pins s σ H vs' us Q I rv ⟨fr, S, ad, R, rs, k⟩ => by
    cases rs with
    | cons ra rb =>
      refine (pgs_cons h1 h2 hs).run pins s σ H _ us Q I rv ⟨_, _, rfl, fr, S, ad, R, ra, fun σ1 S1 H1 ad1 st R1 hl hj => ⟨fr, S1, ad1, R1, rb.mono st, fun σ2 S2 H2 ad2 st2 R2 hl2 hj2 => ?_⟩⟩
      exact k σ2 S2 H2 ad2 (st.trans st2) R2 (hl2.trans hl) fun j hn => by
        simp only [List.mem_append, not_or] at hn
        rw [hj2 j hn.2, hj j hn.1]⟩
theorem gd_tup {vs : List Nat} {xs : List VD} {ds : List D} {n kk : Nat} (hc : X.calm = true) (h : GDs X vs ρ es (ds.map VD.d) ρ1) (hl : ds.length = n) (hn : (assignEach es X.env).length = n) (hst : (assignEach es X.env).findIdx? (·.1) = none) :
    GD X vs ρ (.Tuple es kk pos) (.d (.tup ds)) ρ1 :=
  gd_of (pg_tup hc h hn hst) fun v σ H Q ⟨fr, S, ad, R, rv, k⟩ => by
    obtain ⟨a, ws, e1, e2, e3⟩ := rv.dd.tup_inv
    exact ⟨a, ws, e1, ex_t R.grow.sh e2, by rw [e3.length]; exact hl, fr, S, ad, R, .of_d e3, k⟩
/-- target = e -/
theorem sds_asg {tg : Expr} {vs : List Nat} (he : ED X ρ e x ρ1) (hg : GD X vs ρ1 tg x ρ2) (h : SDs X ρ2 r k) (hs : swapsWithSole [tg] e pos.line X.env = pure false) (hw : swappedStores [tg] e X.env = pure none)
    (h1 : (assignEach [tg] X.env).map (·.2) = [assign tg X.env]) : SDs X ρ (.Assign [tg] e pos :: r) k :=
  sds_cons (sd_of (ps_asg he hg hs hw h1) fun Dn σ H ⟨fr, S, ad, R, kk⟩ => ⟨fr, S, ad, R, fun S1 H1 ad1 v st R1 r1 => ⟨fr, S1, ad1, R1, r1, fun σ' S' H' ad' st' R' _ _ => kk.nx ρ2 σ' S' H' ad' h R'⟩⟩)
end
end DL

namespace DL
open PySem PySem.Spec PyProof.Rows L2

/-! ### what is walked -/
/-- at turn i it gives ds[i]; the heap stays, or one new thing comes -/
def YD (K : PySem.W.Frag) (S0 : Hp) (ds : List D) : Nat → Hp → V → Hp → Prop := fun i H x H1 => ∀ S, Ex S0 S → Ex S H → ∃ d, ds[i]? = some d ∧
  ((H1 = H ∧ Rp K S x d) ∨ (∃ p o, H p = none ∧ H1 = upd H p o ∧ Rp K (upd S p o) x d) ∨ (∃ b xs, H1 = H ∧ x = .ref b ∧ H b = some (.tup xs) ∧ ∀ S', Ex S S' → S' b = some (.tup xs) → Rp K S' x d) ∨
    ∃ p q ys v, H p = none ∧ H1 = upd H p (.tup [.ref q, v]) ∧ x = .ref p ∧ H q = some (.tup ys) ∧ ∀ S', Ex S S' → S' q = some (.tup ys) → S' p = some (.tup [.ref q, v]) → Rp K S' x d)
def tI (K : PySem.W.Frag) (ρ : Env) (ds : List D) (ρ' : Env) : TI := fun σ H R => ∃ fr S ad, Rel K fr ρ σ S H ad ∧ ∀ S' H' ad' J, Step S ad S' ad' → Rel K fr ρ' σ S' H' ad' → Walk J ds.length (fun H'' => Ex S' H'') (YD K S' ds) → R J H'
def ItD (X : Cx) (ρ : Env) (tg iter : Expr) (ds : List D) (ρ' : Env) : Prop := PI X tg iter (tI X.K ρ ds ρ')
section
variable {X : Cx} {ρ ρ' ρ1 ρ2 ρ3 : Env} {e a b c tg iter : Expr} {es rest : List Expr} {x y z : VD} {pos : Pos} {p q : Bool} {st : Stmt} {r body orelse : List Stmt} {k : Kn} {ds : List D}
theorem it_of {t : TI} (h : PI X tg iter t) (q : ∀ σ H R, tI X.K ρ ds ρ' σ H R → t σ H R) : ItD X ρ tg iter ds ρ' := ⟨fun pins s σ H R I hq => h.run pins s σ H R I (q σ H R hq)⟩
/-- a turn's item, by the state -/
theorem Rel.item {K : PySem.W.Frag} {fr : Fr} {ρ : Env} {σ : L2.St} {S H H1 S0 : Hp} {ad : List Addr} {i : Nat} {x : V} (R : Rel K fr ρ σ S H ad) (h0 : Ex S0 S) (h : YD K S0 ds i H x H1) :
    ∃ S1 d, ds[i]? = some d ∧ Step S ad S1 ad ∧ Rel K fr ρ σ S1 H1 ad ∧ Rp K S1 x d := by
  obtain ⟨d, hd, h⟩ := h S h0 R.grow.sh
  rcases h with ⟨e, rp⟩ | ⟨p, o, hp, e, rp⟩ | ⟨b, xs, e, e2, hb, rp⟩ | ⟨p, q, ys, v, hp, e, e2, hq, rp⟩
  · subst e; exact ⟨S, d, hd, .refl _ _, R, rp⟩
  · subst e
    obtain ⟨R2, st2⟩ := R.newS (o := o) hp
    exact ⟨_, d, hd, st2, R2, rp⟩
  · subst e
    obtain ⟨S2, R2, st2, e3⟩ := R.tupS hb
    exact ⟨S2, d, hd, st2, R2, rp S2 st2.s e3⟩
  · subst e
    obtain ⟨S2, R2, st2, e3⟩ := R.tupS hq
    obtain ⟨R3, st3⟩ := R2.newS (o := .tup [.ref q, v]) hp
    exact ⟨_, d, hd, st2.trans st3, R3, rp _ (st2.trans st3).s (st3.s _ _ e3) upd_same⟩
theorem Rel.up {K : PySem.W.Frag} {fr : Fr} {ρ ρ1 : Env} {σ σ1 : L2.St} {S H S1 H1 : Hp} {ad ad1 : List Addr} (R1 : Rel K fr ρ1 σ1 S1 H1 ad1) (R : Rel K fr ρ σ S H ad) (e : Ex S1 S) : Rel K ⟨fr.M, S1, fr.H⟩ ρ σ S H ad :=
  ⟨⟨e, R.grow.sh, R.grow.h, fun a h1 h2 h3 => R.grow.n a (R1.grow.s.back h1) h2 h3⟩, R.slots, R.own, R.mm, R.nd, R.len, R.al, R.ml, R.lv⟩
theorem Rel.down {K : PySem.W.Frag} {fr : Fr} {ρ ρ1 : Env} {σ σ1 : L2.St} {S H S1 H1 : Hp} {ad ad1 : List Addr} (R1 : Rel K fr ρ1 σ1 S1 H1 ad1) (R : Rel K ⟨fr.M, S1, fr.H⟩ ρ σ S H ad) : Rel K fr ρ σ S H ad ∧ Ex S1 S :=
  ⟨⟨⟨R1.grow.s.trans R.grow.s, R.grow.sh, R.grow.h, fun a h1 h2 h3 => R.grow.n a (R1.grow.n a h1 h2 h3) h2 h3⟩, R.slots, R.own, R.mm, R.nd, R.len, R.al, R.ml, R.lv⟩, R.grow.s⟩
def fG (K : PySem.W.Frag) (vs : List Nat) (P : Nat → D → Env → Env → Prop) : TG := fun v σ H Q => ∃ (i : Nat) (d : D) (ρ ρ' : Env), P i d ρ ρ' ∧ tG K vs ρ (.d d) ρ' v σ H Q
def fB (X : Cx) (body : List Stmt) : TS := fun Dn σ H => ∃ ρ' k', SDs X ρ' body k' ∧ tS X.K ρ' k' Dn σ H
theorem fB_ok (body : List Stmt) : PSs X body (fB X body) := pss_any (P := fun ρ' k' => SDs X ρ' body k') fun _ _ h => h
theorem fG_ok {vs : List Nat} {P : Nat → D → Env → Env → Prop} (h : ∀ i d ρ ρ', P i d ρ ρ' → GD X vs ρ tg (.d d) ρ') : PG X tg (fG X.K vs P) :=
  ⟨fun pins s σ H v u Q I rv ⟨i, d, ρ, ρ', h1, hq⟩ => (h i d ρ ρ' h1).run pins s σ H v u Q I rv hq⟩
/-- for target in iter: body -/
theorem sds_for {vs : List Nat} (hi : ItD X ρ tg iter ds ρ1) (I : Nat → Env → Prop) (h0 : I 0 ρ1)
    (hs : ∀ i d ρ, ds[i]? = some d → I i ρ → ∃ ρ', GD X vs ρ tg (.d d) ρ' ∧ SDs X ρ' body { nx := I (i + 1), ct := I (i + 1), bk := fun ρ' => SDs X ρ' r k, rt := k.rt })
    (hd : ∀ ρ, I ds.length ρ → SDs X ρ r k) (hp : PassesOwn (model X.prog X.w) X.A X.env X.xe) (hc : X.calm = true) (hfs : ∀ x, foldedSetIterable iter X.env x = pure x) : SDs X ρ (.For tg iter body [] pos :: r) k := by
  have hg : PG X tg (fG X.K vs fun i d ρ ρ' => ds[i]? = some d ∧ GD X vs ρ tg (.d d) ρ') := fG_ok fun i d ρ ρ' h => h.2
  refine sds_cons (sd_of (ps_for hp hc hi hg (fB_ok body) hfs) fun Dn σ H ⟨fr, S, ad, R, kk⟩ => ⟨fr, S, ad, R, fun S1 H1 ad1 J st1 R1 w => ?_⟩)
  refine for_it (g := fG X.K vs fun i d ρ ρ' => ds[i]? = some d ∧ GD X vs ρ tg (.d d) ρ') (tb := fB X body) (D := Dn) w (fun i σ' H' => ∃ ρ S' ad', I i ρ ∧ Rel X.K fr ρ σ' S' H' ad' ∧ Ex S1 S') ⟨ρ1, S1, ad1, h0, R1, .refl _⟩ (fun i σ' H' _ ⟨ρ, S', ad', _, R', e⟩ => e.trans R'.grow.sh) ?_ ?_
  · rintro i xv σ' H' H2 hlt ⟨ρ', S', ad', hI, R', e⟩ hy
    obtain ⟨S2, d, hd1, st2, R2, rp⟩ := R'.item e hy
    obtain ⟨ρ2, hg2, hb2⟩ := hs i d ρ' hd1 hI
    have Ru := R1.up R2 (e.trans st2.s)
    refine ⟨i, d, ρ', ρ2, ⟨hd1, hg2⟩, ⟨fr.M, S1, fr.H⟩, S2, ad', Ru, .d rp, fun σ3 S3 H3 ad3 st3 R3 _ _ => ⟨ρ2, _, hb2, ⟨fr.M, S1, fr.H⟩, S3, ad3, R3, fun ρ4 σ4 S4 H4 ad4 hn R4 => ?_, fun d4 ρ4 σ4 S4 H4 ad4 v4 hr R4 rp4 => kk.rt d4 ρ4 σ4 S4 H4 ad4 v4 hr (R1.down R4).1 rp4, fun ρ4 σ4 S4 H4 ad4 hn R4 => kk.nx ρ4 σ4 S4 H4 ad4 hn (R1.down R4).1, fun ρ4 σ4 S4 H4 ad4 hn R4 => ?_, fun _ _ _ _ _ _ _ z => z.elim⟩⟩
    · obtain ⟨R5, e5⟩ := R1.down R4
      exact ⟨ρ4, S4, ad4, hn, R5, e5⟩
    · obtain ⟨R5, e5⟩ := R1.down R4
      exact ⟨ρ4, S4, ad4, hn, R5, e5⟩
  · rintro σ' H' ⟨ρ', S', ad', hI, R', e⟩
    exact kk.nx ρ' σ' S' H' ad' (hd ρ' hI) R'
/-! ### things that are walked -/
theorem yd_at {K : PySem.W.Frag} {S0 : Hp} {vs : List V} (h : RpAll K S0 vs ds) {i : Nat} {H : Hp} {x : V} {H1 : Hp} (q : YAt vs i H x H1) : YD K S0 ds i H x H1 := fun S e _ => by
  obtain ⟨d, h1, h2⟩ := h.get q.2
  exact ⟨d, h1, .inl ⟨q.1, h2.mono e⟩⟩
theorem it_list (h : ED X ρ e (.d (.lst ds)) ρ1) : ItD X ρ tg e ds ρ1 := it_of (pi_list h) fun σ H Q ⟨fr, S, ad, R, k⟩ => ⟨fr, S, ad, R, fun S1 H1 ad1 v st1 R1 r1 => by
  obtain ⟨a, vs, e1, e2, e3⟩ := r1.dd.lst_inv
  subst e1
  refine ⟨a, rfl, ⟨vs, ex_l R1.grow.sh e2⟩, k S1 H1 ad1 _ st1 R1 ?_⟩
  have w := walk_list (K := X.K) (a := a) (xs := vs)
  rw [e3.length] at w
  exact w.mono (fun H h => ex_l h e2) fun i H x H' _ _ y => yd_at e3 y⟩
theorem it_tup (h : ED X ρ e (.d (.tup ds)) ρ1) : ItD X ρ tg e ds ρ1 := it_of (pi_tup h) fun σ H Q ⟨fr, S, ad, R, k⟩ => ⟨fr, S, ad, R, fun S1 H1 ad1 v st1 R1 r1 => by
  obtain ⟨a, vs, e1, e2, e3⟩ := r1.dd.tup_inv
  subst e1
  refine ⟨a, rfl, ⟨vs, ex_t R1.grow.sh e2⟩, k S1 H1 ad1 _ st1 R1 ?_⟩
  have w := walk_tup (K := X.K) (a := a) (xs := vs)
  rw [e3.length] at w
  exact w.mono (fun H h => ex_t h e2) fun i H x H' _ _ y => yd_at e3 y⟩
theorem it_ktp (h : ED X ρ e (.d (.ktp ds)) ρ1) : ItD X ρ tg e ds ρ1 := it_of (pi_tup h) fun σ H Q ⟨fr, S, ad, R, k⟩ => ⟨fr, S, ad, R, fun S1 H1 ad1 v st1 R1 r1 => by
  obtain ⟨a, vs, e1, e2, e3⟩ := r1.dd.ktp_inv
  subst e1
  refine ⟨a, rfl, ⟨vs, ex_t R1.grow.sh e2⟩, k S1 H1 ad1 _ st1 R1 ?_⟩
  have w := walk_tup (K := X.K) (a := a) (xs := vs)
  rw [e3.length] at w
  exact w.mono (fun H h => ex_t h e2) fun i H x H' _ _ y => yd_at e3 y⟩
/-- range(lo, hi) as data -/
def rngD (lo : Int) (n : Nat) : List D := (List.range n).map fun (i : Nat) => D.int (lo + (i : Int))
theorem rngD_length (lo : Int) (n : Nat) : (rngD lo n).length = n := by simp [rngD]
theorem walk_rngD {K : PySem.W.Frag} {S0 : Hp} {lo : Int} {n : Nat} {G : Hp → Prop} : Walk (Itr lo n) (rngD lo n).length G (YD K S0 (rngD lo n)) := by
  rw [rngD_length]
  refine (walk_range (lo := lo) (n := n)).mono (fun _ _ => trivial) fun i H x H' hi _ y S _ _ => ⟨.int (lo + i), ?_, .inl ⟨y.1, ?_⟩⟩
  · simp [rngD, hi]
  · rw [y.2]; exact .int _
theorem it_range1 {j : Int} {pp : Pos} (ha : ED X ρ a (.d (.int j)) ρ1) (hg : Gl X "range") (hm : X.mg "range" = none) (hb : -(2 ^ 62) ≤ j ∧ j < 2 ^ 62) (hs : starEach [a] X.env = [(false, eval a X.env)] := by rfl) :
    ItD X ρ tg (.Call (.Name "range" pp) [a] [] pos) (rngD 0 j.toNat) ρ1 := it_of (pi_range1 hg hm (ad_cons ha ad_nil (hs.trans rfl)) hs) fun σ H Q ⟨fr, S, ad, R, k⟩ => ⟨fr, S, ad, R, fun S1 H1 ad1 vs st1 R1 r1 => by
  cases r1 with
  | cons r1 t => cases t; rw [r1.di]; exact ⟨j, rfl, hb.1, hb.2, k S1 H1 ad1 _ st1 R1 walk_rngD⟩⟩
end
end DL

namespace DL
open PySem PySem.Spec PyProof.Rows L2

/-! ### an object aside: as if it had stood at the entry -/
def frD (fr : Fr) (p : Addr) (o : HO) : Fr := ⟨fr.M, fr.S, upd fr.H p o⟩
section
variable {K : PySem.W.Frag} {fr : Fr} {ρ : Env} {σ : L2.St} {S H : Hp} {ad : List Addr} {p : Addr} {o o' : HO}
theorem Rel.notM' (R : Rel K fr ρ σ S H ad) (hp : H p = none) : p ∉ fr.M := fun h => by
  obtain ⟨_, _, _, _, _, _, _, e⟩ := R.atM h
  rw [hp] at e; cases e
theorem Rel.fr0 (R : Rel K fr ρ σ S H ad) (hp : H p = none) : fr.H p = none := by
  cases q : fr.H p with
  | none => rfl
  | some u => exact absurd hp (R.old (by rw [q]; simp))
theorem Rel.ext (R : Rel K fr ρ σ S H ad) (hp : H p = none) : Rel K (frD fr p o) ρ σ S (upd H p o) ad := by
  have hS : S p = none := R.grow.sh.back hp
  refine ⟨⟨R.grow.s, R.grow.sh.mut hS, fun a u e hm => ?_, fun a h1 h2 h3 => ?_⟩, R.slots, fun n u e => ?_, R.mm, R.nd, R.len, R.al, R.ml, fun l hl => upd_some (R.lv l hl)⟩
  · by_cases h : a = p
    · subst h
      have e : upd fr.H a o a = some u := e
      rw [upd_same] at e ⊢; exact e
    · have e : upd fr.H p o a = some u := e
      rw [upd_ne h] at e ⊢; exact R.grow.h a u e hm
  · by_cases h : a = p
    · subst h; exact hS
    · have h2 : upd fr.H p o a ≠ none := h2
      have h3 : ∀ xs, upd fr.H p o a ≠ some (.tup xs) := h3
      rw [upd_ne h] at h2 h3; exact R.grow.n a h1 h2 h3
  · obtain ⟨l, ho, e1, e2, e3, e4, e5⟩ := R.own n u e
    have hl : l ≠ p := ne_of_none e3 hp
    exact ⟨l, ho, e1, e2, by rw [upd_ne hl]; exact e3, e4, fun hm => by show upd fr.H p o l = none; rw [upd_ne hl]; exact e5 hm⟩
theorem Rel.extAt (R : Rel K (frD fr p o) ρ σ S H ad) (hM : p ∉ fr.M) (hS : fr.S p = none) (nt : ∀ xs, o ≠ .tup xs := by intro _ h; cases h) : H p = some o ∧ S p = none :=
  ⟨R.grow.h p o upd_same hM, R.grow.n p hS (by show upd fr.H p o p ≠ none; rw [upd_same]; simp) (fun xs e => by have e : upd fr.H p o p = some (.tup xs) := e; rw [upd_same] at e; cases e; exact nt xs rfl)⟩
theorem Rel.extNe (R : Rel K (frD fr p o) ρ σ S H ad) (hM : p ∉ fr.M) {n : Nat} {u : OD} {l : Addr} (e : ρ.ow[n]? = some (some u)) (hl : ad[n]? = some l) : l ≠ p := fun z => by
  subst z
  obtain ⟨l', ho, e1, e2, e3, e4, e5⟩ := R.own n u e
  rw [hl] at e1; cases e1
  by_cases hm : ρ.m ≤ n
  · have : upd fr.H l o l = none := e5 hm
    rw [upd_same] at this; cases this
  · exact hM (R.inM hl (by omega))
theorem Rel.extSet (R : Rel K (frD fr p o) ρ σ S H ad) (hM : p ∉ fr.M) (hS : fr.S p = none) (nt : ∀ xs, o ≠ .tup xs := by intro _ h; cases h) : Rel K (frD fr p o') ρ σ S (upd H p o') ad := by
  obtain ⟨hp, hSp⟩ := R.extAt hM hS nt
  refine ⟨⟨R.grow.s, R.grow.sh.mut hSp, fun a u e hm => ?_, fun a h1 h2 h3 => ?_⟩, R.slots, fun n u e => ?_, R.mm, R.nd, R.len, R.al, R.ml, fun l hl => upd_some (R.lv l hl)⟩
  · by_cases h : a = p
    · subst h
      have e : upd fr.H a o' a = some u := e
      rw [upd_same] at e ⊢; exact e
    · have e : upd fr.H p o' a = some u := e
      rw [upd_ne h] at e ⊢; exact R.grow.h a u (by show upd fr.H p o a = some u; rw [upd_ne h]; exact e) hm
  · by_cases h : a = p
    · subst h; exact hSp
    · have h2 : upd fr.H p o' a ≠ none := h2
      have h3 : ∀ xs, upd fr.H p o' a ≠ some (.tup xs) := h3
      rw [upd_ne h] at h2 h3; exact R.grow.n a h1 (by show upd fr.H p o a ≠ none; rw [upd_ne h]; exact h2) (fun xs => by show upd fr.H p o a ≠ _; rw [upd_ne h]; exact h3 xs)
  · obtain ⟨l, ho, e1, e2, e3, e4, e5⟩ := R.own n u e
    have hl : l ≠ p := R.extNe hM e e1
    exact ⟨l, ho, e1, e2, by rw [upd_ne hl]; exact e3, e4, fun hm => by
      have := e5 hm
      show upd fr.H p o' l = none
      have this : upd fr.H p o l = none := this
      rw [upd_ne hl] at this ⊢; exact this⟩
/-- the object aside is data from now on -/
theorem Rel.extTake (R : Rel K (frD fr p o) ρ σ S H ad) (hM : p ∉ fr.M) (hS : fr.S p = none) (h0 : fr.H p = none) (nt : ∀ xs, o ≠ .tup xs := by intro _ h; cases h) : Rel K fr ρ σ (upd S p o) H ad ∧ Step S ad (upd S p o) ad := by
  obtain ⟨hp, hSp⟩ := R.extAt hM hS nt
  have hst : Step S ad (upd S p o) ad := ⟨.new hSp, [], by simp⟩
  refine ⟨⟨⟨R.grow.s.trans hst.s, fun a u e => ?_, fun a u e hm => ?_, fun a h1 h2 h3 => ?_⟩, fun i x e => ?_, fun n u e => ?_, R.mm, R.nd, R.len, R.al, R.ml, R.lv⟩, hst⟩
  · by_cases h : a = p
    · subst h; rw [upd_same] at e; cases e; exact hp
    · rw [upd_ne h] at e; exact R.grow.sh a u e
  · have h : a ≠ p := fun z => by rw [z, h0] at e; cases e
    exact R.grow.h a u (by show upd fr.H p o a = some u; rw [upd_ne h]; exact e) hm
  · have h : a ≠ p := fun z => h2 (z ▸ h0)
    rw [upd_ne h]
    exact R.grow.n a h1 (by show upd fr.H p o a ≠ none; rw [upd_ne h]; exact h2) (fun xs => by show upd fr.H p o a ≠ _; rw [upd_ne h]; exact h3 xs)
  · obtain ⟨v, e1, e2⟩ := R.slots i x e
    exact ⟨v, e1, e2.mono hst⟩
  · obtain ⟨l, ho, e1, e2, e3, e4, e5⟩ := R.own n u e
    have hl : l ≠ p := R.extNe hM e e1
    exact ⟨l, ho, e1, by rw [upd_ne hl]; exact e2, e3, e4.mono hst, fun hm => by
      have this : upd fr.H p o l = none := e5 hm
      rw [upd_ne hl] at this; exact this⟩
end
/-! ### slots forgotten -/
def wpE (sl : List (Option VD)) : List Nat → List (Option VD)
  | [] => sl
  | v :: vs => (wpE sl vs).set v none
theorem wpE_length (sl : List (Option VD)) : ∀ vs, (wpE sl vs).length = sl.length
  | [] => rfl
  | v :: vs => by unfold wpE; rw [List.length_set, wpE_length sl vs]
theorem wpE_some {sl : List (Option VD)} {i : Nat} {x : VD} : ∀ {vs : List Nat}, (wpE sl vs)[i]? = some (some x) → sl[i]? = some (some x) ∧ i ∉ vs
  | [], h => ⟨h, by simp⟩
  | v :: vs, h => by
    unfold wpE at h
    by_cases hi : v = i
    · subst hi
      by_cases hv : v < (wpE sl vs).length
      · rw [List.getElem?_set_self hv] at h; cases h
      · rw [List.getElem?_eq_none (by simpa using hv)] at h; cases h
    · rw [List.getElem?_set_ne hi] at h
      obtain ⟨h1, h2⟩ := wpE_some h
      exact ⟨h1, by simp only [List.mem_cons, not_or]; exact ⟨fun e => hi e.symm, h2⟩⟩
theorem wipe_in {σ : L2.St} {i : Nat} : ∀ {vs : List Nat}, i ∈ vs → i < σ.length → (wipe σ vs)[i]? = some none
  | [], h, _ => by cases h
  | v :: vs, h, hl => by
    unfold wipe
    by_cases hi : v = i
    · subst hi; exact List.getElem?_set_self (by rw [wipe_length]; exact hl)
    · rw [List.getElem?_set_ne hi]
      rcases List.mem_cons.mp h with z | z
      · exact absurd z.symm hi
      · exact wipe_in z hl
theorem wipe_eq {σ τ : L2.St} {vs gv : List Nat} (hl : τ.length = σ.length) (hj : ∀ j, j ∉ gv → τ[j]? = (wipe σ vs)[j]?) (hv : ∀ j ∈ gv, j ∈ vs) : wipe τ vs = wipe σ vs := by
  apply List.ext_getElem?
  intro j
  by_cases h : j ∈ vs
  · by_cases hlt : j < σ.length
    · rw [wipe_in h hlt, wipe_in h (by rw [hl]; exact hlt)]
    · rw [List.getElem?_eq_none (by rw [wipe_length, hl]; omega), List.getElem?_eq_none (by rw [wipe_length]; omega)]
  · rw [wipe_out h, hj j fun z => h (hv j z)]
theorem Rel.wiped {K : PySem.W.Frag} {fr : Fr} {ρ : Env} {σ : L2.St} {S H : Hp} {ad : List Addr} (R : Rel K fr ρ σ S H ad) (vs : List Nat) : Rel K fr { ρ with sl := wpE ρ.sl vs } (wipe σ vs) S H ad :=
  R.weak (by rw [wpE_length, wipe_length]; exact R.len) fun i x e => by
    obtain ⟨h1, h2⟩ := wpE_some e
    exact ⟨h1, wipe_out h2⟩
/-! ### list comprehensions -/
abbrev Blk (X : Cx) (scope : Scope) (P : Cx → Prop) : Prop := ∀ (s : Shared) (H : Hp) (C : Addr) (cl : List (Str × Addr)) (fp : List Addr), P (X.blk s H scope (compEnvC scope cl C X.env) fp)
def TDs (X : Cx) (ρ : Env) (ifs : List Expr) (b : Bool) (ρ' : Env) : Prop := PTs X ifs (tT X.K ρ b ρ')
section
variable {X : Cx} {ρ ρ' ρ1 ρ2 ρ3 : Env} {e a b c tg iter elt : Expr} {es rest ifs : List Expr} {x y z : VD} {pos : Pos} {p q : Bool} {st : Stmt} {r body orelse : List Stmt} {k : Kn} {ds : List D}
theorem tds_nil : TDs X ρ [] true ρ := ⟨fun pins s σ H Q I ⟨fr, S, ad, R, k⟩ => pts_nil.run pins s σ H Q I (k S H ad (.refl _ _) R)⟩
theorem tds_one (h : TD X ρ c p ρ1) : TDs X ρ [c] p ρ1 := pts_one h
/-- what one turn does: ow the objects ahead, acc the list so far -/
def LcTurn (X : Cx) (scope : Scope) (gv vs : List Nat) (ρ1 : Env) (tg elt : Expr) (ifs : List Expr) (I : List D → List (Option OD) → Prop) (d : D) (acc : List D) (ow : List (Option OD)) : Prop :=
  ∃ sl2 p ow3, Blk X scope (fun Y => GD Y gv { ρ1 with sl := wpE ρ1.sl vs, ow := ow } tg (.d d) { ρ1 with sl := sl2, ow := ow }) ∧
    Blk X scope (fun Y => TDs Y { ρ1 with sl := sl2, ow := ow } ifs p { ρ1 with sl := sl2, ow := ow3 }) ∧
    (p = true → ∃ e ow4, Blk X scope (fun Y => ED Y { ρ1 with sl := sl2, ow := ow3 } elt (.d e) { ρ1 with sl := sl2, ow := ow4 }) ∧ I (acc ++ [e]) ow4) ∧ (p = false → I acc ow3)
def bG (X : Cx) (scope : Scope) (gv : List Nat) (tg : Expr) : TG := fun v σ H Q => ∃ ρ x ρ', Blk X scope (fun Y => GD Y gv ρ tg x ρ') ∧ tG X.K gv ρ x ρ' v σ H Q
def bT (X : Cx) (scope : Scope) (ifs : List Expr) : TT := fun σ H Q => ∃ ρ p ρ', Blk X scope (fun Y => TDs Y ρ ifs p ρ') ∧ tT X.K ρ p ρ' σ H Q
def bE (X : Cx) (scope : Scope) (elt : Expr) : TE := fun σ H Q => ∃ ρ x ρ', Blk X scope (fun Y => ED Y ρ elt x ρ') ∧ tE X.K ρ x ρ' σ H Q
theorem bG_ok {scope : Scope} {gv : List Nat} : Blk X scope (fun Y => PG Y tg (bG X scope gv tg)) := fun s H C cl fp => ⟨fun pins s' σ H' v u Q I rv ⟨ρ, x, ρ', h1, hq⟩ => (h1 s H C cl fp).run pins s' σ H' v u Q I rv hq⟩
theorem bT_ok {scope : Scope} : Blk X scope (fun Y => PTs Y ifs (bT X scope ifs)) := fun s H C cl fp => ⟨fun pins s' σ H' Q I ⟨ρ, x, ρ', h1, hq⟩ => (h1 s H C cl fp).run pins s' σ H' Q I hq⟩
theorem bE_ok {scope : Scope} : Blk X scope (fun Y => PE Y elt (bE X scope elt)) := fun s H C cl fp => ⟨fun pins s' σ H' Q I ⟨ρ, x, ρ', h1, hq⟩ => (h1 s H C cl fp).run pins s' σ H' Q I hq⟩
theorem lc_read {gv vs : List Nat} {scope : Scope} (hgv : ∀ j ∈ gv, j ∈ vs) (I : Nat → List D → List (Option OD) → Prop) (h0 : I 0 [] ρ1.ow)
    (hs : ∀ i d acc ow, ds[i]? = some d → I i acc ow → LcTurn X scope gv vs ρ1 tg elt ifs (I (i + 1)) d acc ow) (hz : ds.length ≤ sizeLine) {out : List D} {ow' : List (Option OD)} (hd : ∀ acc ow, I ds.length acc ow → acc = out ∧ ow = ow')
    (hlen : ∀ i acc ow, I i acc ow → acc.length ≤ i) {σ : L2.St} {H : Hp} {Q : VK} (hq : tE X.K ρ (.d (.lst out)) { ρ1 with ow := ow' } σ H Q) :
    tLc (tI X.K ρ ds ρ1) (bG X scope gv tg) (bT X scope ifs) (bE X scope elt) vs σ H Q := by
  obtain ⟨fr, S, ad, R, kk⟩ := hq
  refine ⟨fr, S, ad, R, fun S1 H1 ad1 J st1 R1 w L hL => ?_⟩
  have hM : L ∉ fr.M := R1.notM' hL
  have h0' : fr.H L = none := R1.fr0 hL
  have hSL : fr.S L = none := R1.grow.s.back (R1.grow.sh.back hL)
  refine lc_it (g := bG X scope gv tg) (tt := bT X scope ifs) (te := bE X scope elt) (vs := vs) (σ := σ) (D := L) (Qd := fun H' => Q (.ref L) H') w
    (fun i H' => ∃ acc accv ow S' ad', I i acc ow ∧ Rel X.K (frD fr L (.lst accv)) { ρ1 with sl := wpE ρ1.sl vs, ow := ow } (wipe σ vs) S' H' ad' ∧ RpAll X.K S' accv acc ∧ Step S1 ad1 S' ad') ?_ ?_ ?_ ?_
  · exact ⟨[], [], ρ1.ow, S1, ad1, h0, (R1.ext hL).wiped vs, .nil, .refl _ _⟩
  · rintro i H' _ ⟨acc, accv, ow, S', ad', _, R', _, st'⟩
    exact st'.s.trans R'.grow.sh
  · rintro i xv H' H2 hlt ⟨acc, accv, ow, S', ad', hI, R', ra, st'⟩ hy
    obtain ⟨S2, d, hd1, st2, R2, rp⟩ := R'.item st'.s hy
    obtain ⟨sl2, p, ow3, hG, hT, hE, hF⟩ := hs i d acc ow hd1 hI
    refine ⟨_, _, _, hG, _, S2, ad', R2, .d rp, fun σ3 S3 H3 ad3 st3 R3 hl3 hj3 => ⟨wipe_eq (hl3.trans (wipe_length _ _)) hj3 hgv, _, _, _, hT, _, S3, ad3, R3, fun S4 H4 ad4 st4 R4 => ?_⟩⟩
    have back : ∀ {S5 : Hp} {H5 : Hp} {ad5 : List Addr} {ow5 : List (Option OD)}, Rel X.K (frD fr L (.lst accv)) { ρ1 with sl := sl2, ow := ow5 } σ3 S5 H5 ad5 → Step S2 ad' S5 ad5 → Rel X.K (frD fr L (.lst accv)) { ρ1 with sl := wpE ρ1.sl vs, ow := ow5 } (wipe σ vs) S5 H5 ad5 := by
      intro S5 H5 ad5 ow5 R5 st5
      refine ⟨R5.grow, fun j x e => ?_, R5.own, R5.mm, R5.nd, R2.len, R5.al, R5.ml, R5.lv⟩
      obtain ⟨v, e1, e2⟩ := R2.slots j x e
      exact ⟨v, e1, e2.mono st5⟩
    cases p with
    | false => exact iteF ⟨acc, accv, ow3, S4, ad4, hF rfl, back R4 (st3.trans st4), ra.mono ((st2.trans st3).trans st4).s, ((st'.trans st2).trans st3).trans st4⟩
    | true =>
      obtain ⟨e, ow4, hE1, hI4⟩ := hE rfl
      refine iteT ⟨_, _, _, hE1, _, S4, ad4, R4, fun S5 H5 ad5 v5 st5 R5 rv5 => ?_⟩
      obtain ⟨hp5, _⟩ := R5.extAt hM hSL
      refine ⟨accv, hp5, ?_, acc ++ [e], accv ++ [v5], ow4, S5, ad5, hI4, (back R5 ((st3.trans st4).trans st5)).extSet hM hSL, ?_, (((st'.trans st2).trans st3).trans st4).trans st5⟩
      · rw [ra.length]
        have := hlen i acc ow hI
        omega
      · exact (ra.mono (((st2.trans st3).trans st4).trans st5).s).append (.cons rv5.dd .nil)
  · rintro H' ⟨acc, accv, ow, S', ad', hI, R', ra, st'⟩
    obtain ⟨rfl, rfl⟩ := hd acc ow hI
    obtain ⟨R2, st2⟩ := R'.extTake hM hSL h0'
    refine kk _ H' ad' _ ((st1.trans st').trans st2) ⟨R2.grow, fun j x e => ?_, R2.own, R2.mm, R2.nd, R1.len, R2.al, R2.ml, R2.lv⟩ (.d (.lst (SqL.of upd_same) (ra.mono st2.s)))
    obtain ⟨v, e1, e2⟩ := R1.slots j x e
    exact ⟨v, e1, e2.mono (st'.trans st2)⟩
/-- [elt for tg in iter if ..] -/
theorem ed_lcG {gv vs : List Nat} {scope : Scope} {own : List (Str × Nat)} (hi : ItD X ρ tg iter ds ρ1) (I : Nat → List D → List (Option OD) → Prop) (h0 : I 0 [] ρ1.ow)
    (hs : ∀ i d acc ow, ds[i]? = some d → I i acc ow → LcTurn X scope gv (own.map (·.2)) ρ1 tg elt ifs (I (i + 1)) d acc ow) (hz : ds.length ≤ sizeLine) {out : List D} {ow' : List (Option OD)} (hd : ∀ acc ow, I ds.length acc ow → acc = out ∧ ow = ow')
    (hlen : ∀ i acc ow, I i acc ow → acc.length ≤ i) (hgv : ∀ j ∈ gv, j ∈ own.map (·.2)) (ok : BlkOk X.N X.env.scope scope own) (hN : X.N.Nodup) (hc : X.calm = true) (hfs : ∀ x, foldedSetIterable iter X.env x = pure x) :
    ED X ρ (.ListComp elt [⟨tg, iter, ifs, 0⟩] scope pos) (.d (.lst out)) { ρ1 with ow := ow' } :=
  ed_of (pe_lc hc hN hi ok bG_ok bT_ok bE_ok hfs) fun σ H Q hq => lc_read hgv I h0 hs hz hd hlen hq
/-- name = [elt for tg in iter if ..] -/
theorem sds_lcG (i : Nat) {n : Str} {pos' spos : Pos} {gv vs : List Nat} {scope : Scope} {own : List (Str × Nat)} (hi : ItD X ρ tg iter ds ρ1) (I : Nat → List D → List (Option OD) → Prop) (h0 : I 0 [] ρ1.ow)
    (hs : ∀ i d acc ow, ds[i]? = some d → I i acc ow → LcTurn X scope gv (own.map (·.2)) ρ1 tg elt ifs (I (i + 1)) d acc ow) (hz : ds.length ≤ sizeLine) {out : List D} {ow' : List (Option OD)} (hd : ∀ acc ow, I ds.length acc ow → acc = out ∧ ow = ow')
    (hlen : ∀ i acc ow, I i acc ow → acc.length ≤ i) (h : SDs X (Env.put { ρ1 with ow := ow' } i (.d (.lst out))) r k) (hgv : ∀ j ∈ gv, j ∈ own.map (·.2)) (ok : BlkOk X.N X.env.scope scope own) (hN : X.N.Nodup) (hc : X.calm = true)
    (hi' : X.N[i]? = some n) (hyl : X.env.scope.names.lookup n = some .local) (hsw : swapsWith (.ListComp elt [⟨tg, iter, ifs, 0⟩] scope pos) (some (.Name n pos')) spos.line X.env = pure true) (hfs : ∀ x, foldedSetIterable iter X.env x = pure x) :
    SDs X ρ (.Assign [.Name n pos'] (.ListComp elt [⟨tg, iter, ifs, 0⟩] scope pos) spos :: r) k :=
  sds_cons (sd_of (ps_setLc hc hN hi' hyl hsw hi ok bG_ok bT_ok bE_ok hfs) fun Dn σ H ⟨fr, S, ad, R, kk⟩ => lc_read hgv I h0 hs hz hd hlen ⟨fr, S, ad, R, fun S1 H1 ad1 v st R1 r1 => kk.nx _ _ S1 H1 ad1 h (R1.setSl r1)⟩)
end
end DL

namespace DL
open PySem PySem.Spec PyProof.Rows L2

/-! ### what a def promises: arguments (.loc i: the i-th lent object), what the lent objects hold, the result, what they hold behind -/
abbrev FSpec := List VD → List OD → D → List OD → Prop
def OD.free : OD → Prop
  | .ins _ _ xs => ∃ ds, AllD xs ds
  | _ => True
theorem OR.free {K : PySem.W.Frag} {S : Hp} {ad ad' : List Addr} {l : Addr} {ho : HO} {o : OD} (hf : o.free) (h : OR K S ad l ho o) : OR K S ad' l ho o := by
  cases ho <;> cases o <;> first | exact h.elim | exact h | skip
  obtain ⟨h0, vs, h1, h2, h3⟩ := h
  obtain ⟨ds, ha⟩ := hf
  refine ⟨h0, vs, h1, h2, ?_⟩
  clear h1 h2
  induction ha generalizing vs with
  | nil => cases h3; exact .nil
  | cons _ ih =>
    cases h3 with
    | cons r t => exact .cons (.d r.dd) (ih _ t)
structure OwnA (K : PySem.W.Frag) (S H : Hp) (M : List Addr) (os : List OD) : Prop where
  len : M.length = os.length
  at_ : ∀ (n : Nat) o, os[n]? = some o → ∃ l ho, M[n]? = some l ∧ S l = none ∧ H l = some ho ∧ OR K S [] l ho o
def spF (K : PySem.W.Frag) (R : FSpec) : Sp := fun vs H Q _ => ∃ S M xs os rr os', Ex S H ∧ RvAll K S M vs xs ∧ OwnA K S H M os ∧ M.Nodup ∧ R xs os rr os' ∧ (∀ o ∈ os, o.free) ∧
  ∀ S' H' v, Grow M S H S' H' → Rp K S' v rr → OwnA K S' H' M os' → Q v H'
/-- the caller's n-th object is lent as the i-th -/
inductive Tr (ns : List Nat) : VD → VD → Prop
  | d (x : D) : Tr ns (.d x) (.d x)
  | loc {n i : Nat} : ns[i]? = some n → Tr ns (.loc n) (.loc i)
inductive TrAll (ns : List Nat) : List VD → List VD → Prop
  | nil : TrAll ns [] []
  | cons {x y : VD} {xs ys : List VD} : Tr ns x y → TrAll ns xs ys → TrAll ns (x :: xs) (y :: ys)
def setAll (ow : List (Option OD)) : List Nat → List OD → List (Option OD)
  | n :: ns, o :: os => (setAll ow ns os).set n (some o)
  | _, _ => ow
theorem setAll_length (ow : List (Option OD)) : ∀ ns os, (setAll ow ns os).length = ow.length
  | n :: ns, o :: os => by unfold setAll; rw [List.length_set, setAll_length ow ns os]
  | [], _ => rfl
  | _ :: _, [] => rfl
theorem setAll_in {ow : List (Option OD)} : ∀ {ns : List Nat} {os : List OD} {i n : Nat} {o : OD}, ns.Nodup → ns[i]? = some n → os[i]? = some o → n < ow.length → (setAll ow ns os)[n]? = some (some o)
  | [], _, _, _, _, _, h, _, _ => by simp at h
  | _ :: _, [], _, _, _, _, _, h, _ => by simp at h
  | m :: ns, u :: os, 0, n, o, nd, h1, h2, hl => by
    simp at h1 h2
    subst h1 h2
    unfold setAll
    exact List.getElem?_set_self (by rw [setAll_length]; exact hl)
  | m :: ns, u :: os, i + 1, n, o, nd, h1, h2, hl => by
    simp at h1 h2
    have ne : m ≠ n := fun z => (List.nodup_cons.mp nd).1 (z ▸ List.mem_of_getElem? h1)
    unfold setAll
    rw [List.getElem?_set_ne ne]
    exact setAll_in (List.nodup_cons.mp nd).2 h1 h2 hl
theorem setAll_out {ow : List (Option OD)} : ∀ {ns : List Nat} {os : List OD} {n : Nat}, n ∉ ns → (setAll ow ns os)[n]? = ow[n]?
  | [], _, _, _ => rfl
  | _ :: _, [], _, _ => rfl
  | m :: ns, u :: os, n, h => by
    unfold setAll
    simp only [List.mem_cons, not_or] at h
    rw [List.getElem?_set_ne (fun z => h.1 z.symm)]
    exact setAll_out h.2
/-- lent objects -/
structure Lend (ow : List (Option OD)) (ns : List Nat) (os : List OD) : Prop where
  len : ns.length = os.length
  nd : ns.Nodup
  at_ : ∀ (i n : Nat), ns[i]? = some n → ∃ o, ow[n]? = some (some o) ∧ os[i]? = some o ∧ o.free
theorem Lend.nil {ow : List (Option OD)} : Lend ow [] [] := ⟨rfl, by simp, fun i n h => by simp at h⟩
theorem Lend.one {ow : List (Option OD)} {n : Nat} {o : OD} (h : ow[n]? = some (some o)) (hf : o.free) : Lend ow [n] [o] := ⟨rfl, by simp, fun i m e => by
  cases i with
  | zero => simp at e; subst e; exact ⟨o, h, rfl, hf⟩
  | succ i => simp at e⟩
section
variable {K : PySem.W.Frag} {fr : Fr} {ρ : Env} {σ : L2.St} {S H : Hp} {ad : List Addr}
theorem trAll_ok {ns : List Nat} {M : List Addr} (hM : ∀ (i n : Nat), ns[i]? = some n → M[i]? = ad[n]?) : ∀ {vs : List V} {xs ys : List VD}, TrAll ns xs ys → RvAll K S ad vs xs → RvAll K S M vs ys
  | _, _, _, .nil, h => by cases h; exact .nil
  | _, _, _, .cons t ts, h => by
    cases h with
    | cons r rs =>
      refine .cons ?_ (trAll_ok hM ts rs)
      cases t with
      | d x => exact .d r.dd
      | loc e =>
        obtain ⟨l, e1, e2⟩ := r.dl
        subst e1
        exact .loc ((hM _ _ e).trans e2)
/-- the call's promise, from the caller's state -/
theorem Rel.call {R : FSpec} {ns : List Nat} {os os' : List OD} {xs ys : List VD} {vs : List V} {rr : D} {Q : VK} {E : XK} (A : Rel K fr ρ σ S H ad) (hv : RvAll K S ad vs xs) (ht : TrAll ns xs ys) (hl : Lend ρ.ow ns os) (hr : R ys os rr os') (hos : os'.length = os.length)
    (k : ∀ S' H' v, Step S ad S' ad → Rel K fr { ρ with ow := setAll ρ.ow ns os' } σ S' H' ad → Rp K S' v rr → Q v H') : spF K R vs H Q E := by
  let M : List Addr := ns.map fun n => (ad[n]?).getD 0
  have adAt : ∀ (i n : Nat), ns[i]? = some n → ∃ l, ad[n]? = some l ∧ M[i]? = some l := fun i n e => by
    obtain ⟨o, h1, _⟩ := hl.at_ i n e
    obtain ⟨l, ho, e1, _⟩ := A.own n o h1
    refine ⟨l, e1, ?_⟩
    show (ns.map fun n => (ad[n]?).getD 0)[i]? = some l
    rw [List.getElem?_map, e]
    simp [e1]
  have hM : ∀ (i n : Nat), ns[i]? = some n → M[i]? = ad[n]? := fun i n e => by
    obtain ⟨l, e1, e2⟩ := adAt i n e
    rw [e1, e2]
  have lenM : M.length = ns.length := by show (ns.map _).length = _; simp
  have ofM : ∀ a, a ∈ M → ∃ i n : Nat, ns[i]? = some n ∧ ad[n]? = some a := fun a ha => by
    obtain ⟨i, hi⟩ := List.getElem?_of_mem ha
    have hlt := (List.getElem?_eq_some_iff.mp hi).1
    rw [lenM] at hlt
    have e : ns[i]? = some ns[i] := by simp [hlt]
    refine ⟨i, ns[i], e, ?_⟩
    rw [← hM i _ e]; exact hi
  have ndM : M.Nodup := by
    refine List.pairwise_iff_getElem.mpr fun i j hi hj hij heq => ?_
    rw [lenM] at hi hj
    have ei : ns[i]? = some ns[i] := by simp [hi]
    have ej : ns[j]? = some ns[j] := by simp [hj]
    obtain ⟨l, a1, a2⟩ := adAt i _ ei
    obtain ⟨l', b1, b2⟩ := adAt j _ ej
    have a3 := (List.getElem?_eq_some_iff.mp a2).2
    have b3 := (List.getElem?_eq_some_iff.mp b2).2
    have hll : l = l' := by rw [← a3, ← b3]; exact heq
    subst hll
    have h2 := nodup_ixA A.nd a1 b1
    have := (List.getElem_inj hl.nd (h₀ := hi) (h₁ := hj)).mp h2
    omega
  refine ⟨S, M, ys, os, rr, os', A.grow.sh, trAll_ok hM ht hv, ⟨lenM.trans hl.len, fun i o e => ?_⟩, ndM, hr, fun o ho => ?_, fun S' H' v g rp oa => ?_⟩
  · have hlt := (List.getElem?_eq_some_iff.mp e).1
    rw [← hl.len] at hlt
    have en : ns[i]? = some ns[i] := by simp [hlt]
    obtain ⟨o', h1, h2, h3⟩ := hl.at_ i _ en
    rw [e] at h2; cases h2
    obtain ⟨l, ho, e1, e2, e3, e4, _⟩ := A.own _ o h1
    exact ⟨l, ho, (hM i _ en).trans e1, e2, e3, e4.free h3⟩
  · obtain ⟨i, hi⟩ := List.getElem?_of_mem ho
    have hlt := (List.getElem?_eq_some_iff.mp hi).1
    rw [← hl.len] at hlt
    obtain ⟨o', h1, h2, h3⟩ := hl.at_ i ns[i] (by simp [hlt])
    rw [hi] at h2; cases h2
    exact h3
  · have hst : Step S ad S' ad := ⟨g.s, [], by simp⟩
    have keepH : ∀ a o, H a = some o → a ∉ M → H' a = some o := g.h
    have live : ∀ a, H a ≠ none → H' a ≠ none := fun a ha => by
      by_cases hm : a ∈ M
      · obtain ⟨i, hi⟩ := List.getElem?_of_mem hm
        have hlt := (List.getElem?_eq_some_iff.mp hi).1
        rw [oa.len] at hlt
        obtain ⟨l, ho, e1, _, e3, _⟩ := oa.at_ i os'[i] (by simp [hlt])
        rw [hi] at e1; cases e1
        rw [e3]; simp
      · cases q : H a with
        | none => exact absurd q ha
        | some u => rw [keepH a u q hm]; simp
    refine k S' H' v hst ⟨⟨A.grow.s.trans g.s, g.sh, fun a o e hm => ?_, fun a h1 h2 h3 => ?_⟩, fun i x e => ?_, fun n o e => ?_, A.mm, A.nd, A.len, by rw [A.al]; exact (setAll_length _ _ _).symm, fun n hn => ?_, fun l hl' => live l (A.lv l hl')⟩ rp
    · refine keepH a o (A.grow.h a o e hm) fun ha => ?_
      obtain ⟨i, n, e1, e2⟩ := ofM a ha
      obtain ⟨u, h1, _⟩ := hl.at_ i n e1
      by_cases hnm : ρ.m ≤ n
      · obtain ⟨l, ho, f1, f2, f3, f4, f5⟩ := A.own n u h1
        rw [e2] at f1; cases f1
        rw [f5 hnm] at e; cases e
      · exact hm (A.inM e2 (by omega))
    · exact g.n a (A.grow.n a h1 h2 h3) (A.old h2) (A.ntup h2 h3)
    · obtain ⟨w, e1, e2⟩ := A.slots i x e
      exact ⟨w, e1, e2.mono hst⟩
    · by_cases hn : n ∈ ns
      · obtain ⟨i, hi⟩ := List.getElem?_of_mem hn
        have hlt := (List.getElem?_eq_some_iff.mp hi).1
        obtain ⟨u, h1, h2, h3⟩ := hl.at_ i n hi
        have hlt2 := (List.getElem?_eq_some_iff.mp h1).1
        have hio : i < os'.length := by rw [hos, ← hl.len]; exact hlt
        have e' := setAll_in (ow := ρ.ow) (os := os') hl.nd hi (show os'[i]? = some os'[i] by simp [hio]) hlt2
        have eo : (some (some o) : Option (Option OD)) = some (some os'[i]) := e.symm.trans e'
        cases eo
        obtain ⟨l, ho, f1, f2, f3, f4⟩ := oa.at_ i os'[i] (by simp [hio])
        obtain ⟨l0, ho0, g1, g2, g3, g4, g5⟩ := A.own n u h1
        rw [hM i n hi, g1] at f1; cases f1
        have f4' : OR K S' ad l ho os'[i] := by
          cases ho <;> cases q : os'[i] <;> rw [q] at f4 <;> first | exact f4.elim | exact f4 | skip
          obtain ⟨h0, vs', h1', h2', h3'⟩ := f4
          refine ⟨h0, vs', h1', h2', ?_⟩
          clear h1' h2' q
          induction h3' with
          | nil => exact .nil
          | cons r t ih => 
            refine .cons ?_ ih
            cases r with
            | d r => exact .d r
            | loc z => simp at z
        exact ⟨_, ho, g1, f2, f3, f4', g5⟩
      · have e' : ρ.ow[n]? = some (some o) := by rw [← setAll_out hn]; exact e
        obtain ⟨l, ho, e1, e2, e3, e4, e5⟩ := A.own n o e'
        have hlm : l ∉ M := fun z => by
          obtain ⟨i, n', f1, f2⟩ := ofM l z
          have := nodup_ixA A.nd e1 f2
          subst this
          exact hn (List.mem_of_getElem? f1)
        exact ⟨l, ho, e1, g.n l e2 (by rw [e3]; simp) (fun xs z => by rw [e3] at z; cases z; exact e4.ntup), keepH l ho e3 hlm, e4.mono hst, e5⟩
    · obtain ⟨o, e⟩ := A.ml n hn
      by_cases hns : n ∈ ns
      · obtain ⟨i, hi⟩ := List.getElem?_of_mem hns
        have hlt := (List.getElem?_eq_some_iff.mp hi).1
        have hio : i < os'.length := by rw [hos, ← hl.len]; exact hlt
        exact ⟨_, setAll_in hl.nd hi (show os'[i]? = some os'[i] by simp [hio]) (List.getElem?_eq_some_iff.mp e).1⟩
      · exact ⟨o, by show (setAll ρ.ow ns os')[n]? = _; rw [setAll_out hns]; exact e⟩
/-- the entry's state -/
theorem Rel.start {N : List Str} {M : List Addr} {os : List OD} {vs : List V} {xs : List VD} (hS : Ex S H) (hv : RvAll K S M vs xs) (ho : OwnA K S H M os) (hM : M.Nodup) (hn : xs.length ≤ N.length) :
    Rel K ⟨M, S, H⟩ ⟨os.length, xs.map some ++ List.replicate (N.length - xs.length) none, os.map some⟩ (start N vs) S H M := by
  have hl := hv.length
  refine ⟨⟨.refl _, hS, fun a o e _ => e, fun a h _ _ => h⟩, fun i x e => ?_, fun n o e => ?_, ⟨ho.len, by show M.take os.length = M; rw [← ho.len, List.take_length]⟩, hM, ?_, by rw [ho.len]; simp, fun n hn => ?_, fun l hl' => ?_⟩
  · have e : (xs.map some ++ List.replicate (N.length - xs.length) none)[i]? = some (some x) := e
    by_cases hi : i < xs.length
    · rw [List.getElem?_append_left (by simpa using hi), List.getElem?_map] at e
      have ex : xs[i]? = some x := by
        cases q : xs[i]? with
        | none => rw [q] at e; cases e
        | some y => rw [q] at e; simpa using e
      obtain ⟨v, e1, e2⟩ := hv.get ex
      refine ⟨v, ?_, e2⟩
      show (L2.start N vs)[i]? = _
      unfold L2.start
      rw [List.getElem?_append_left (by simpa [hl] using hi), List.getElem?_map, e1]; rfl
    · rw [List.getElem?_append_right (by simpa using hi)] at e
      have := List.mem_of_getElem? e
      have := List.eq_of_mem_replicate this
      cases this
  · have e : (os.map some)[n]? = some (some o) := e
    rw [List.getElem?_map] at e
    have eo : os[n]? = some o := by
      cases q : os[n]? with
      | none => rw [q] at e; cases e
      | some y => rw [q] at e; simpa using e
    obtain ⟨l, h', e1, e2, e3, e4⟩ := ho.at_ n o eo
    refine ⟨l, h', e1, e2, e3, ?_, fun hm => ?_⟩
    · exact OR.mono (ad := []) ⟨.refl _, M, by simp⟩ e4
    · have := (List.getElem?_eq_some_iff.mp eo).1
      have hm : os.length ≤ n := hm
      omega
  · show (xs.map some ++ List.replicate (N.length - xs.length) none).length = (L2.start N vs).length
    unfold L2.start
    simp [hl]
  · have hn : n < os.length := hn
    exact ⟨os[n], by show (os.map some)[n]? = _; rw [List.getElem?_map]; simp [hn]⟩
  · obtain ⟨i, hi⟩ := List.getElem?_of_mem hl'
    have hlt := (List.getElem?_eq_some_iff.mp hi).1
    rw [ho.len] at hlt
    obtain ⟨l', h', e1, e2, e3, e4⟩ := ho.at_ i os[i] (by simp [hlt])
    rw [hi] at e1; cases e1
    rw [e3]; simp
/-- the end's state -/
theorem Rel.finish {M : List Addr} {S0 H0 : Hp} {os' : List OD} (A : Rel K ⟨M, S0, H0⟩ ρ σ S H ad) (hm' : M.length = os'.length) (h : ρ.ow.take os'.length = os'.map some) (hf : ∀ o ∈ os', o.free) : OwnA K S H M os' := by
  have ml : M.length = ρ.m := A.mm.1
  have hm : ρ.m = os'.length := ml.symm.trans hm'
  refine ⟨by rw [ml, hm], fun n o e => ?_⟩
  have hlt := (List.getElem?_eq_some_iff.mp e).1
  have e' : ρ.ow[n]? = some (some o) := by
    have : (ρ.ow.take os'.length)[n]? = (os'.map some)[n]? := by rw [h]
    rw [List.getElem?_take_of_lt hlt, List.getElem?_map, e] at this
    exact this
  obtain ⟨l, ho, e1, e2, e3, e4, _⟩ := A.own n o e'
  refine ⟨l, ho, ?_, e2, e3, e4.free (hf o (List.mem_of_getElem? e))⟩
  have hM : ad.take ρ.m = M := A.mm.2
  rw [← hM, List.getElem?_take_of_lt (by rw [hm]; exact hlt)]
  exact e1
end
/-- the state in which a def's body starts -/
def env0 (N : List Str) (xs : List VD) (os : List OD) : Env := ⟨os.length, xs.map some ++ List.replicate (N.length - xs.length) none, os.map some⟩
/-- what its body must reach -/
def kn0 (n : Nat) (r : D) (os' : List OD) : Kn := { nx := fun ρ => r = .non ∧ ρ.ow.take n = os'.map some, rt := fun d ow => d = r ∧ ow.take n = os'.map some }
section
variable {P : Program} {w : World} {K : PySem.W.Frag} {mg : Str → Option Value} {base : Heap} {x qual : Str} {params : Arguments} {body : List Stmt} {scope : Scope} {f : Addr} {fd : FuncData} {N ps : List Str} {j : Nat} {R : FSpec}
/-- the reading of a body -/
theorem body_read {N : List Str} {os os' : List OD} {vs : List V} {xs : List VD} {rr : D} {H : Hp} {Q : VK} {S : Hp} {M : List Addr} (hS : Ex S H) (hv : RvAll K S M vs xs) (ho : OwnA K S H M os) (hM : M.Nodup) (hn : xs.length ≤ N.length) (hf : ∀ o ∈ os', o.free) (hl : os'.length = os.length)
    (k : ∀ S' H' v, Grow M S H S' H' → Rp K S' v rr → OwnA K S' H' M os' → Q v H') : tS K (env0 N xs os) (kn0 os.length rr os') { nx := fun _ H' => Q .non H', rt := Q } (start N vs) H := by
  refine ⟨⟨M, S, H⟩, S, M, Rel.start hS hv ho hM hn, fun ρ σ S' H' ad' hk A => ?_, fun d ρ σ S' H' ad' v hk A rp => ?_, fun ρ σ S' H' ad' hk A => hk.elim, fun ρ σ S' H' ad' hk A => hk.elim, fun _ _ _ _ _ _ _ z => z.elim⟩
  · obtain ⟨e, h1⟩ := hk
    subst e
    exact k S' H' _ A.grow .non (A.finish (ho.len.trans hl.symm) (by rw [hl]; exact h1) hf)
  · obtain ⟨e, h1⟩ := hk
    subst e
    exact k S' H' v A.grow rp (A.finish (ho.len.trans hl.symm) (by rw [hl]; exact h1) hf)
/-- a def keeps its promise -/
theorem fn_D (F : FunD K x qual params body scope [] [] f fd) (sc : FnScope N ps scope) (hb : Binds K fd ps []) (hlen : ∀ xs os r os', R xs os r os' → xs.length = ps.length ∧ os'.length = os.length ∧ ∀ o ∈ os', o.free)
    (hbody : ∀ (cdv : Value) (A : Around) (outer : List PySem.Env) (s : Shared) (H : Hp) (E : XK), Room j (A.deeper (envOfC qual scope s.heap.objs.size f cdv)) → ∀ xs os r os', R xs os r os' → (∀ o ∈ os, o.free) →
      SDs (cxOf CX0 P w K mg base N qual scope f cdv A outer s H E).nox (env0 N xs os) body (kn0 os.length r os')) : FnR P w K mg base CX0 (j + 1) f (spF K R) := by
  have F1 : FnOk P w K mg base CX0 (j + 1) f fd ps (spF K R) := by
    refine F.ok sc (fun vs H Q E h => ?_) (fun cdv A outer s H vs Q E hr h => ?_)
    · obtain ⟨S, M, xs, os, rr, os', _, hv, _, _, h5, _⟩ := h
      rw [hv.length]; exact (hlen _ _ _ _ h5).1
    · obtain ⟨S, M, xs, os, rr, os', h1, hv, ho, hM, h5, hf, k⟩ := h
      obtain ⟨l1, l2, l3⟩ := hlen _ _ _ _ h5
      refine ⟨_, (hbody cdv A outer s H E hr xs os rr os' h5 hf).nox, body_read h1 hv ho hM ?_ l3 l2 k⟩
      have := congrArg List.length sc.pre
      rw [List.length_take] at this
      omega
  have F2 := F1.raw hb (dvs := []) .nil
  refine F2.imp fun vs H Q E h => ?_
  rw [List.append_nil]; exact h
end
end DL

namespace DL
open PySem PySem.Spec PyProof.Rows L2

/-! ### calls of defs -/
theorem pe_callR {X : Cx} {k : Nat} {f : Addr} {x : Str} {sp : Sp} {E : XK} {e : Expr} {es : List Expr} {t : TA} {p pos : Pos} (F : FnR X.prog X.w X.K X.mg X.base CX0 k f sp) (hr : Room k X.A) (hg : Gl X x) (hm : X.mg x = some (.ref f)) (hk : PySem.W.keepIn X.K (.ref f) = true)
    (ha : PA X (e :: es) t) (hdb : (x == ("__debug__" : Str)) = false) (he : starEach (e :: es) X.env = (false, eval e X.env) :: starEach es X.env) (hpl : (backTo pos (starEach es X.env)).any (·.1) = false) :
    PE X (.Call (.Name x p) (e :: es) [] pos) (fun σ H Q => t σ H fun vs H1 => sp vs H1 Q E) := by
  refine ⟨fun pins s σ H Q I h => ?_⟩
  refine wpAny_Call_Name_kw (ld_glob I hg hm ?_ hdb)
  refine PySem.W.callWith_K (h₀ := X.base) I.ok.mod.kin hk (thn (ha.run pos pins s σ H _ I h) fun us s1 ⟨vs, H1, I1, r, q⟩ => ⟨I1.kIn, ?_⟩) he hpl
  exact wpAny_call (run_fnR (E := E) F hr (fun _ _ _ _ _ _ _ h => h.elim) I1 r q)
/-- a def of the module that may be called here -/
structure CGs (P : Program) (w : World) (K : PySem.W.Frag) (mg : Str → Option Value) (base : Heap) (A : Around) (x : Str) (R : FSpec) : Prop where
  ex : ∃ f j, FnR P w K mg base CX0 j f (spF K R) ∧ Room j A ∧ mg x = some (.ref f) ∧ PySem.W.keepIn K (.ref f) = true
abbrev CG (X : Cx) : Str → FSpec → Prop := CGs X.prog X.w X.K X.mg X.base X.A
/-- a method of the class at C -/
structure CMs (P : Program) (w : World) (K : PySem.W.Frag) (mg : Str → Option Value) (base : Heap) (A : Around) (C : Addr) (m : Str) (R : FSpec) : Prop where
  cl : Cls K C
  ex : ∃ f j, FnR P w K mg base CX0 j f (spF K R) ∧ Room j A ∧ Meth K C m f
abbrev CM (X : Cx) : Addr → Str → FSpec → Prop := CMs X.prog X.w X.K X.mg X.base X.A
section
variable {X : Cx} {ρ ρ' ρ1 ρ2 ρ3 : Env} {e a b c tg iter elt : Expr} {es rest ifs : List Expr} {x y z : VD} {xs ys : List VD} {pos pp apos : Pos} {p q : Bool} {st : Stmt} {r body orelse : List Stmt} {k : Kn} {ds : List D} {n m : Str} {R : FSpec}
theorem AllD.tr {ns : List Nat} : ∀ {xs : List VD} {ds : List D}, AllD xs ds → TrAll ns xs xs
  | _, _, .nil => .nil
  | _, _, .cons h => .cons (.d _) h.tr
/-- f(e, ..): some of the arguments are lent objects -/
theorem ed_callL {ns : List Nat} {os os' : List OD} {rr : D} (C : CG X n R) (ha : AD X ρ (e :: es) xs ρ1) (ht : TrAll ns xs ys) (hl : Lend ρ1.ow ns os) (hR : R ys os rr os') (hos : os'.length = os.length) (hg : Gl X n) (hdb : (n == ("__debug__" : Str)) = false := by decide)
    (he : starEach (e :: es) X.env = (false, eval e X.env) :: starEach es X.env := by rfl) (hpl : (backTo pos (starEach es X.env)).any (·.1) = false := by rfl) :
    ED X ρ (.Call (.Name n pp) (e :: es) [] pos) (.d rr) { ρ1 with ow := setAll ρ1.ow ns os' } := by
  obtain ⟨f, j, F, hr, hm, hk⟩ := C.ex
  refine ed_of (pe_callR (E := E0) F hr hg hm hk ha hdb he hpl) fun σ H Q ⟨fr, S, ad, A, kk⟩ => ⟨fr, S, ad, A, fun S1 H1 ad1 vs st1 A1 r1 => ?_⟩
  exact A1.call r1 ht hl hR hos fun S' H' v st' A' rp => kk S' H' ad1 v (st1.trans st') A' (.d rp)
/-- f(e, ..) of data -/
theorem ed_call {rr : D} (C : CG X n R) (ha : AD X ρ (e :: es) xs ρ1) (hd : AllD xs ds) (hR : R xs [] rr []) (hg : Gl X n) (hdb : (n == ("__debug__" : Str)) = false := by decide)
    (he : starEach (e :: es) X.env = (false, eval e X.env) :: starEach es X.env := by rfl) (hpl : (backTo pos (starEach es X.env)).any (·.1) = false := by rfl) :
    ED X ρ (.Call (.Name n pp) (e :: es) [] pos) (.d rr) ρ1 := ed_callL (ns := []) (os' := []) C ha hd.tr Lend.nil hR rfl hg hdb he hpl
/-! ### fields -/
theorem lookup_zip {α : Type} : ∀ {ns : List Str} {vs : List α} {i : Nat} {f : Str} {v : α}, ns.Nodup → ns[i]? = some f → vs[i]? = some v → (ns.zip vs).lookup f = some v
  | [], _, _, _, _, _, h, _ => by simp at h
  | _ :: _, [], _, _, _, _, _, h => by simp at h
  | n :: ns, w :: vs, 0, f, v, _, h1, h2 => by
    simp at h1 h2
    subst h1 h2
    simp [List.lookup]
  | n :: ns, w :: vs, i + 1, f, v, nd, h1, h2 => by
    simp at h1 h2
    have ne : f ≠ n := fun z => (List.nodup_cons.mp nd).1 (z ▸ List.mem_of_getElem? h1)
    have e : (f == n) = false := by simpa using ne
    show (match f == n with | true => some w | false => (ns.zip vs).lookup f) = some v
    rw [e]
    exact lookup_zip (List.nodup_cons.mp nd).2 h1 h2
theorem lookup_zip_none {α : Type} : ∀ {ns : List Str} {vs : List α} {f : Str}, f ∉ ns → (ns.zip vs).lookup f = none
  | [], _, _, _ => by simp
  | _ :: _, [], _, _ => by simp
  | n :: ns, w :: vs, f, h => by
    simp only [List.mem_cons, not_or] at h
    have e : (f == n) = false := by simpa using h.1
    show (match f == n with | true => some w | false => (ns.zip vs).lookup f) = none
    rw [e]
    exact lookup_zip_none h.2
/-- e.f of an instance that is data -/
theorem ed_fld {C : Addr} {ns : List Str} {d : D} {f : Str} (i : Nat) (he : ED X ρ e (.d (.ins C ns ds)) ρ1) (c : Cls X.K C) (na : NoAttr X.K C f) (h1 : ns[i]? = some f) (h2 : ds[i]? = some d) (nd : ns.Nodup := by decide) (hb : attributeBase e f X.env (eval e X.env) = eval e X.env := by rfl) :
    ED X ρ (.Attribute e f pos) (.d d) ρ1 := ed_of (pe_fld he hb) fun σ H Q ⟨fr, S, ad, A, kk⟩ => ⟨fr, S, ad, A, fun S1 H1 ad1 v st1 A1 r1 => by
  obtain ⟨a, dx, vs, e1, e2, e3, e4⟩ := r1.dd.ins_inv
  obtain ⟨w, e5, e6⟩ := e4.getD h2
  exact ⟨a, C, dx, _, w, e1, A1.grow.sh _ _ e2, c, na, lookup_zip nd h1 e5, kk S1 H1 ad1 w st1 A1 (.d e6)⟩⟩
/-- o.f = e: a new field, the last -/
theorem putF_new : ∀ {ns : List Str} {vs : List V} {f : Str} {v : V}, ns.length = vs.length → f ∉ ns → putF f v (ns.zip vs) = (ns ++ [f]).zip (vs ++ [v])
  | [], [], _, _, _, _ => rfl
  | n :: ns, w :: vs, f, v, hl, h => by
    simp only [List.mem_cons, not_or] at h
    show (if n = f then (n, v) :: ns.zip vs else (n, w) :: putF f v (ns.zip vs)) = _
    rw [if_neg (fun z => h.1 z.symm), putF_new (by simpa using hl) h.2]
    rfl
theorem RvAll.append {K : PySem.W.Frag} {S : Hp} {ad : List Addr} : ∀ {vs ws : List V} {xs ys : List VD}, RvAll K S ad vs xs → RvAll K S ad ws ys → RvAll K S ad (vs ++ ws) (xs ++ ys)
  | _, _, _, _, .nil, h => h
  | _, _, _, _, .cons a b, h => .cons a (RvAll.append b h)
theorem RvAll.set {K : PySem.W.Frag} {S : Hp} {ad : List Addr} : ∀ {vs : List V} {xs : List VD} (i : Nat) {v : V} {x : VD}, RvAll K S ad vs xs → Rv K S ad v x → RvAll K S ad (vs.set i v) (xs.set i x)
  | _, _, _, _, _, .nil, _ => .nil
  | _, _, 0, _, _, .cons _ b, h => .cons h b
  | _, _, i + 1, _, _, .cons a b, h => .cons a (RvAll.set i b h)
theorem sds_fldN {C : Addr} {ns : List Str} {f : Str} {o : Nat} {pos' : Pos} (hv : ED X ρ e x ρ1) (ho : ED X ρ1 a (.loc o) ρ2) (hw : ρ2.ow[o]? = some (some (.ins C ns xs))) (h : SDs X { ρ2 with ow := ρ2.ow.set o (some (.ins C (ns ++ [f]) (xs ++ [x]))) } r k)
    (c : Cls X.K C) (na : NoAttr X.K C f) (hf : f ∉ ns) (hl : ns.length < 1000) (hs : swapsWith e (some (.Attribute a f pos')) pos.line X.env = pure false) : SDs X ρ (.Assign [.Attribute a f pos'] e pos :: r) k :=
  sds_cons (sd_of (ps_fld ho hv hs) fun Dn σ H ⟨fr, S, ad, A, kk⟩ => ⟨fr, S, ad, A, fun S1 H1 ad1 v st1 A1 r1 => ⟨fr, S1, ad1, A1, fun S2 H2 ad2 v2 st2 A2 r2 => by
    obtain ⟨l, hu, e1, e2, e3, e4, _⟩ := A2.own o _ hw
    obtain ⟨l', f1, f2⟩ := r2.dl
    rw [e1] at f2; cases f2
    cases hu <;> first | exact e4.elim | skip
    obtain ⟨g0, vs, g1, g2, g3⟩ := e4
    subst g0 g1
    refine ⟨l, _, _, _, f1, e3, c, na, by rw [List.length_zip, ← g2]; omega, kk.nx _ σ S2 _ ad2 h (A2.setO hw e1 ?_)⟩
    exact ⟨rfl, vs ++ [v], putF_new g2 hf, by simp [g2], g3.append (.cons (r1.mono st2) .nil)⟩⟩⟩)
/-! ### subscripts -/
theorem atI_map {K : PySem.W.Frag} {S : Hp} {vs : List V} {i : Int} {d : D} (h : RpAll K S vs ds) (e : atI ds i = some d) : ∃ v, atI vs i = some v ∧ Rp K S v d := by
  unfold atI at e ⊢
  rw [h.length]
  cases q : ixN ds.length i with
  | none => rw [q] at e; cases e
  | some j =>
    rw [q] at e
    exact h.getD e
/-- an item of a list of ours -/
theorem own_lst {K : PySem.W.Frag} {fr : Fr} {σ : L2.St} {S H : Hp} {ad : List Addr} (A : Rel K fr ρ σ S H ad) {o : Nat} (ho : ρ.ow[o]? = some (some (.lst ds))) {v : V} (hv : Rv K S ad v (.loc o)) : ∃ l vs, v = .ref l ∧ ad[o]? = some l ∧ H l = some (.lst vs) ∧ RpAll K S vs ds := by
  obtain ⟨l, hu, e1, e2, e3, e4, _⟩ := A.own o _ ho
  obtain ⟨l', f1, f2⟩ := hv.dl
  rw [e1] at f2; cases f2
  cases hu <;> first | exact e4.elim | skip
  exact ⟨l, _, f1, e1, e3, e4⟩
theorem ed_ixO {i : Int} {d : D} {o : Nat} (ha : ED X ρ a (.loc o) ρ1) (hb : ED X ρ1 b (.d (.int i)) ρ2) (ho : ρ2.ow[o]? = some (some (.lst ds))) (h : atI ds i = some d) (hs : PlainIx b := by intro _ _; rfl) : ED X ρ (.Subscript a b pos) (.d d) ρ2 :=
  ed_of (pe_ix ix_list ha hb hs) fun σ H Q hk => two_ σ H Q _ hk fun fr S ad S1 H1 ad1 v1 v2 A st r1 r2 kk => by
    obtain ⟨l, vs, e1, e2, e3, e4⟩ := own_lst A ho r1
    obtain ⟨v, e5, e6⟩ := atI_map e4 h
    exact ⟨l, vs, i, v, e1, r2.di, SqL.of e3, e5, kk S1 H1 ad1 v (.refl _ _) A (.d e6)⟩
/-- o[i] = e, a list of ours -/
theorem sds_setIx {i : Int} {j o : Nat} {d : D} {tpos : Pos} (hv : ED X ρ e (.d d) ρ1) (ho : ED X ρ1 a (.loc o) ρ2) (hi : ED X ρ2 b (.d (.int i)) ρ3) (hw : ρ3.ow[o]? = some (some (.lst ds))) (hj : ixN ds.length i = some j) (h : SDs X { ρ3 with ow := ρ3.ow.set o (some (.lst (ds.set j d))) } r k)
    (ha : ∀ v, assign (.Subscript a b tpos) X.env v = (do
      let ov ← holding [v] (eval a X.env)
      let iv ← holding [v, ov] (eval b X.env)
      standAt tpos
      holding [v, ov, iv] (setItem ov iv v)
      release [v, ov, iv] []) := by intro _; rfl)
    (hs : swapsWithSole [.Subscript a b tpos] e pos.line X.env = pure false := by rfl) (hsw : swappedStores [.Subscript a b tpos] e X.env = pure none := by rfl) (h1 : (assignEach [.Subscript a b tpos] X.env).map (·.2) = [assign (.Subscript a b tpos) X.env] := by rfl) :
    SDs X ρ (.Assign [.Subscript a b tpos] e pos :: r) k :=
  sds_cons (sd_of (ps_asg hv (pg_sub ho hi set_list ha) hs hsw h1) fun Dn σ H ⟨fr, S, ad, A, kk⟩ => ⟨fr, S, ad, A, fun S1 H1 ad1 v st1 A1 r1 => ⟨fr, S1, ad1, A1, fun S2 H2 ad2 v2 st2 A2 r2 => ⟨fr, S2, ad2, A2, fun S3 H3 ad3 v3 st3 A3 r3 => by
    obtain ⟨l, vs, e1, e2, e3, e4⟩ := own_lst A3 hw (r2.mono st3)
    refine ⟨l, vs, i, j, e1, r3.di, e3, by rw [e4.length]; exact hj, kk.nx _ σ S3 _ ad3 h (A3.setO hw e2 ?_)⟩
    exact e4.set j ((r1.mono (st2.trans st3)).dd)⟩⟩⟩)
/-- xs.append(e), a list of ours -/
theorem ed_append {d : D} {o : Nat} (ha : ED X ρ a (.loc o) ρ1) (hb : ED X ρ1 b (.d d) ρ2) (hw : ρ2.ow[o]? = some (some (.lst ds))) (hw1 : ∃ ds', ρ1.ow[o]? = some (some (.lst ds'))) (hz : ds.length < sizeLine) (hs : starEach [b] X.env = (false, eval b X.env) :: starEach [] X.env := by rfl) (hg : PE X (.Call (.Attribute a "append" apos) [b] [] pos) (tBM X.K "list" rAppend (tE X.K ρ (.loc o) ρ1) (tCons (tE X.K ρ1 (.d d) ρ2) tNil))) :
    ED X ρ (.Call (.Attribute a "append" apos) [b] [] pos) (.d .non) { ρ2 with ow := ρ2.ow.set o (some (.lst (ds ++ [d]))) } :=
  ed_of hg fun σ H Q ⟨fr, S, ad, A, kk⟩ => ⟨fr, S, ad, A, fun S1 H1 ad1 v1 st1 A1 r1 => by
    obtain ⟨ds', hw1⟩ := hw1
    obtain ⟨l, vs, e1, e2, e3, e4⟩ := own_lst A1 hw1 r1
    refine ⟨by rw [e1]; exact .inl ⟨rfl, _, SqL.of e3⟩, fr, S1, ad1, A1, fun S2 H2 ad2 v2 st2 A2 r2 => ?_⟩
    obtain ⟨l2, vs2, f1, f2, f3, f4⟩ := own_lst A2 hw (r1.mono st2)
    refine ⟨l2, vs2, v2, f1, rfl, f3, by rw [f4.length]; exact hz, kk S2 _ ad2 _ (st1.trans st2) (A2.setO hw f2 ?_) (.d .non)⟩
    exact f4.append (.cons r2.dd .nil)⟩
/-! ### built-ins -/
theorem rv1 {K : PySem.W.Frag} {S : Hp} {ad : List Addr} {vs : List V} {x : VD} (h : RvAll K S ad vs [x]) : ∃ v, vs = [v] ∧ Rv K S ad v x := by
  cases h with | cons r t => cases t; exact ⟨_, rfl, r⟩
theorem rv2 {K : PySem.W.Frag} {S : Hp} {ad : List Addr} {vs : List V} {x y : VD} (h : RvAll K S ad vs [x, y]) : ∃ v w, vs = [v, w] ∧ Rv K S ad v x ∧ Rv K S ad w y := by
  cases h with | cons r t => cases t with | cons r2 t => cases t; exact ⟨_, _, rfl, r, r2⟩
/-- a call of a built-in function by its values -/
def CBR (X : Cx) (f : Value) (ρ : Env) (xs : List VD) (x : VD) (ρ' : Env) : Prop := ∃ rr : List V → Hp → VK → Prop, CallR X f rr ∧
  ∀ fr σ S H ad vs Q, Rel X.K fr ρ σ S H ad → RvAll X.K S ad vs xs → (∀ S' H' ad' v, Step S ad S' ad' → Rel X.K fr ρ' σ S' H' ad' → Rv X.K S' ad' v x → Q v H') → rr vs H Q
theorem ed_blt {id : String} (hc : CBR X (.builtin id) ρ1 xs x ρ2) (ha : AD X ρ (e :: es) xs ρ1) (hm : X.mg n = none) (hv : bootBuiltins n = some (.builtin id)) (hg : Gl X n) (hn : n ≠ "__name__" := by decide) (hdb : (n == ("__debug__" : Str)) = false := by decide)
    (he : starEach (e :: es) X.env = (false, eval e X.env) :: starEach es X.env := by rfl) (hpl : (backTo pos (starEach es X.env)).any (·.1) = false := by rfl) : ED X ρ (.Call (.Name n pp) (e :: es) [] pos) x ρ2 := by
  obtain ⟨rr, h1, h2⟩ := hc
  exact ed_of (pe_callB h1 hg hm hv ha hn hdb he hpl) fun σ H Q ⟨fr, S, ad, A, kk⟩ => ⟨fr, S, ad, A, fun S1 H1 ad1 vs st1 A1 r1 => h2 fr σ S1 H1 ad1 vs Q A1 r1 fun S' H' ad' v st' => kk S' H' ad' v (st1.trans st')⟩
theorem ed_bty' {T : String} (hc : CBR X (.type T) ρ1 xs x ρ2) (ha : AD X ρ (e :: es) xs ρ1) (hm : X.mg n = none) (hv : bootBuiltins n = some (.type T)) (hg : Gl X n) (hn : n ≠ "__name__" := by decide) (hdb : (n == ("__debug__" : Str)) = false := by decide)
    (he : starEach (e :: es) X.env = (false, eval e X.env) :: starEach es X.env := by rfl) (hpl : (backTo pos (starEach es X.env)).any (·.1) = false := by rfl) : ED X ρ (.Call (.Name n pp) (e :: es) [] pos) x ρ2 := by
  obtain ⟨rr, h1, h2⟩ := hc
  exact ed_of (pe_callTy h1 hg hm hv ha hn hdb he hpl) fun σ H Q ⟨fr, S, ad, A, kk⟩ => ⟨fr, S, ad, A, fun S1 H1 ad1 vs st1 A1 r1 => h2 fr σ S1 H1 ad1 vs Q A1 r1 fun S' H' ad' v st' => kk S' H' ad' v (st1.trans st')⟩
theorem cb_max2 {i j : Int} (hc : X.calm = true) : CBR X (.builtin "max") ρ [.d (.int i), .d (.int j)] (.d (.int (max i j))) ρ := ⟨_, call_max2 hc, fun fr σ S H ad vs Q A r0 k => by
  obtain ⟨v, w, rfl, r1, r2⟩ := rv2 r0
  rw [r1.di, r2.di]
  refine ⟨i, j, rfl, ?_⟩
  have e : (if j > i then j else i) = max i j := by split <;> omega
  rw [e]; exact k S H ad _ (.refl _ _) A (.d (.int _))⟩
theorem cb_intI {i : Int} : CBR X (.type "int") ρ [.d (.int i)] (.d (.int i)) ρ := ⟨_, call_int1, fun fr σ S H ad vs Q A r0 k => by
  obtain ⟨v, rfl, r⟩ := rv1 r0
  rw [r.di]
  exact .inl ⟨i, rfl, k S H ad _ (.refl _ _) A (.d (.int _))⟩⟩
theorem cb_intB {i : Bool} : CBR X (.type "int") ρ [.d (.bl i)] (.d (.int (if i then 1 else 0))) ρ := ⟨_, call_int1, fun fr σ S H ad vs Q A r0 k => by
  obtain ⟨v, rfl, r⟩ := rv1 r0
  rw [r.db]
  exact .inr ⟨i, rfl, k S H ad _ (.refl _ _) A (.d (.int _))⟩⟩
/-! ### isinstance -/
def D.tyn : D → Option String
  | .non => some "NoneType" | .bl _ => some "bool" | .int _ => some "int" | .str _ => some "str" | .byt _ => some "bytes" | .lst _ => some "list" | .tup _ => some "tuple" | .ktp _ => some "tuple" | .dic _ _ => some "dict"
  | _ => none
theorem Rp.ty_ {K : PySem.W.Frag} {S H : Hp} {v : V} {d : D} {t : String} (h : Rp K S v d) (hx : Ex S H) (e : d.tyn = some t) : TyX K H v (.type t) := by
  cases h with
  | non => cases e; exact .base .non
  | bl b => cases e; exact .base (.bl b)
  | int i => cases e; exact .base (.int i)
  | str x => cases e; exact .base (.str x)
  | byt x => cases e; exact .byt x
  | lst q _ =>
    cases e
    rcases ex_l hx q with (q | ⟨o, q⟩) | ⟨o, its, n, q1, q2, _⟩
    · exact .base (.lst q)
    · exact .base (.frz q)
    · exact .kList q1 q2
  | tup q _ => cases e; exact .base (.tup (hx _ _ q))
  | ktp q _ =>
    cases e
    rcases ex_t hx q with (q | ⟨o, q⟩) | ⟨o, its, n, q1, q2, _⟩
    · exact .base (.tup q)
    · exact .fTuple q
    · exact .kTuple q1 q2
  | ins _ _ _ => cases e
  | dic q _ _ => cases e; exact .fDict (hx _ _ q)
  | dit q _ _ => cases e
  | lam i q => cases e
  | ref a => cases e
  | ty n => cases e
theorem cb_isi {d : D} {t T : String} {bb : Bool} (ht : d.tyn = some t) (hk : kitB t T = some bb) : CBR X (.builtin "isinstance") ρ [.d d, .d (.ty T)] (.d (.bl bb)) ρ := ⟨_, call_isi, fun fr σ S H ad vs Q A r0 k => by
  obtain ⟨v, w, rfl, r1, r2⟩ := rv2 r0
  have hw : w = .ty T := by cases r2.dd; rfl
  subst hw
  exact ⟨v, _, _, _, bb, rfl, .ty T, r1.dd.ty_ A.grow.sh ht, kit_ty hk, k S H ad _ (.refl _ _) A (.d (.bl _))⟩⟩
end
end DL

namespace DL
open PySem PySem.Spec PyProof.Rows L2
/-- the slot of a name -/
def slotOf : List Str → List (Option VD) → Str → Option VD
  | m :: N, s :: sl, n => bif m == n then s else slotOf N sl n
  | _, _, _ => none
theorem slotOf_ok : ∀ {N : List Str} {sl : List (Option VD)} {n : Str} {x : VD}, slotOf N sl n = some x → ∃ i : Nat, N[i]? = some n ∧ sl[i]? = some (some x)
  | [], _, _, _, h => by cases h
  | _ :: _, [], _, _, h => by cases h
  | m :: N, s :: sl, n, x, h => by
    unfold slotOf at h
    cases q : (m == n) with
    | true =>
      rw [q] at h
      have e : m = n := eq_of_beq q
      refine ⟨0, by simp [e], ?_⟩
      simpa using h
    | false =>
      rw [q] at h
      obtain ⟨i, h1, h2⟩ := slotOf_ok (N := N) (sl := sl) h
      exact ⟨i + 1, by simpa using h1, by simpa using h2⟩
section
variable {X : Cx} {ρ ρ' ρ1 ρ2 ρ3 : Env} {e a b c tg iter elt : Expr} {es rest ifs : List Expr} {x y z : VD} {xs ys : List VD} {pos pp apos : Pos} {p q : Bool} {st : Stmt} {r body orelse : List Stmt} {k : Kn} {ds : List D} {n m : Str} {R : FSpec}
theorem ed_v (hs : slotOf X.N ρ.sl n = some x) (hv : Vis X.env.scope n) (hd : (n == ("__debug__" : Str)) = false) (hcd : (n == ("__classdict__" : Str)) = false) : ED X ρ (.Name n pos) x ρ := by
  obtain ⟨i, h1, h2⟩ := slotOf_ok hs
  exact ed_var i h2 h1 hv hd hcd
/-- a list or a tuple -/
def D.seq? : D → Option (List D)
  | .lst ds => some ds
  | .tup ds => some ds
  | .ktp ds => some ds
  | _ => none
theorem Rp.seq {K : PySem.W.Frag} {S : Hp} {v : V} {d : D} (h : Rp K S v d) (e : d.seq? = some ds) : ∃ a vs, v = .ref a ∧ (SqL K S a vs ∨ SqT K S a vs) ∧ RpAll K S vs ds := by
  cases h with
  | lst q r => cases e; exact ⟨_, _, rfl, .inl q, r⟩
  | tup q r => cases e; exact ⟨_, _, rfl, .inr (SqT.of q), r⟩
  | ktp q r => cases e; exact ⟨_, _, rfl, .inr q, r⟩
  | _ => cases e
theorem ed_ix {i : Int} {d u : D} (ha : ED X ρ a (.d u) ρ1) (hb : ED X ρ1 b (.d (.int i)) ρ2) (hu : u.seq? = some ds) (h : atI ds i = some d) (hs : PlainIx b := by intro _ _; rfl) : ED X ρ (.Subscript a b pos) (.d d) ρ2 :=
  ed_of (pe_ix ix_seq ha hb hs) fun σ H Q hk => two_ σ H Q _ hk fun fr S ad S1 H1 ad1 v1 v2 A st r1 r2 kk => by
    obtain ⟨p, vs, e1, e2, e3⟩ := r1.dd.seq hu
    obtain ⟨v, e4, e5⟩ := atI_map e3 h
    rcases e2 with e2 | e2
    · exact .inl ⟨p, vs, i, v, e1, r2.di, ex_l A.grow.sh e2, e4, kk S1 H1 ad1 v (.refl _ _) A (.d e5)⟩
    · exact .inr (.inl ⟨p, vs, i, v, e1, r2.di, ex_t A.grow.sh e2, e4, kk S1 H1 ad1 v (.refl _ _) A (.d e5)⟩)
theorem cb_len {u : D} (hu : u.seq? = some ds) : CBR X (.builtin "len") ρ [.d u] (.d (.int ds.length)) ρ := ⟨_, call_len_seq, fun fr σ S H ad vs Q A r0 k => by
  obtain ⟨v, rfl, r⟩ := rv1 r0
  obtain ⟨p, ys, e1, e2, e3⟩ := r.dd.seq hu
  refine ⟨p, ys, by rw [e1], e2.imp (ex_l A.grow.sh) (ex_t A.grow.sh), ?_⟩
  rw [e3.length]; exact k S H ad _ (.refl _ _) A (.d (.int _))⟩
end
end DL

namespace DL
open PySem PySem.Spec PyProof.Rows L2
/-! ### enumerate(tuple) -/
set_option maxHeartbeats 2000000 in
theorem meets_enum1 {v : Value} {ob : Obj} {Hh : Heap → Prop} (B : Begins v ob Hh) :
    Meets (Builtin.«enumerate.__new__» ⟨[.type "enumerate", v], []⟩) (fun _ R s => Hh s.heap ∧
      R (.ok (.ret (.ref (s.heap.push ob).objs.size))) { s with heap := (s.heap.push ob).push { cls := .type "enumerate", data := .fields #[.none, .bool false, .ref s.heap.objs.size, rawInt 0, .none, .none] } }) :=
  .of_wp fun prog w A R s hyp => by
    obtain ⟨hp, g, dr, tk, os⟩ := s
    obtain ⟨hyp1, hyp⟩ := hyp
    have hs1 := sub_enumerate
    have qi : ∀ {A' : Around} {E : Value → Shared → Prop} {Q : Value → Shared → Prop}, Q (.ref hp.objs.size) ⟨hp.push ob, g, dr, tk, os⟩ → wpAny (model prog w) A' (pyIter v) Q E ⟨hp, g, dr, tk, os⟩ :=
      fun q => B.iter prog w _ _ ⟨hp, g, dr, tk, os⟩ _ hyp1 q
    wp_walk using qi
    refine wpAny_stack_any fun st => wpAny_pure ?_
    split
    · rename_i cc _ _ _ _ _
      cases (cc == Value.type "enumerate")
      · wp_walk using qi
        exact ⟨_, rfl, hyp⟩
      · wp_walk using qi
        exact ⟨_, rfl, hyp⟩
    · wp_walk using qi
      exact ⟨_, rfl, hyp⟩
theorem call_enum1 {prog : Program} {w : World} {A : Around} {E : Value → Shared → Prop} {s : Shared} {v : Value} {ob : Obj} {Hh : Heap → Prop} {Q : Value → Shared → Prop} (B : Begins v ob Hh) (h1 : Hh s.heap)
    (h : ∀ h', IsEnum h' (s.heap.objs.size + 1) s.heap.objs.size 0 .none → h'.get? s.heap.objs.size = some ob → h'.objs.size = s.heap.objs.size + 2 →
      (∀ b o, s.heap.get? b = some o → h'.get? b = some o) → Q (.ref (s.heap.objs.size + 1)) { s with heap := h' }) :
    wpAny (model prog w) A (call (.type "enumerate") [v]) Q E s := by
  refine callType_new F.called_enumerate (by decide) (F.typeCall_enumerate_1 _) (F.newCall_enumerate_1 _) (fun obj => F.args_object_init_2 obj _) F.entry_enumerate_new
    (meets_enum1 B) ⟨h1, ?_⟩
  have sz1 : (s.heap.push ob).objs.size = s.heap.objs.size + 1 := Heap.size_push ..
  show _ ∧ _
  rw [sz1]
  let eo : Obj := { cls := .type "enumerate", data := .fields #[.none, .bool false, .ref s.heap.objs.size, rawInt 0, .none, .none] }
  have he : IsEnum ((s.heap.push ob).push eo) (s.heap.objs.size + 1) s.heap.objs.size 0 .none := by
    have := Heap.get?_push_size (s.heap.push ob) (o := eo) rfl
    rw [sz1] at this
    exact this
  exact ⟨⟨_, he, rfl⟩, h _ he (Heap.get?_push_of_some _ (Heap.get?_push_size _ B.free)) (by rw [Heap.size_push, sz1]) fun b o x => Heap.get?_push_of_some _ (Heap.get?_push_of_some _ x)⟩
/-- the tuple at a, each item in a new pair -/
def IteT (K : PySem.W.Frag) (a : Addr) : It :=
  ⟨fun i H => ∃ (xs : List V) (x : V), SqT K H a xs ∧ xs[i]? = some x, fun i H v H' => ∃ T x, v = .ref T ∧ H T = none ∧ H' = upd H T (.tup [.int (i : Nat), x]) ∧ ∀ xs, SqT K H a xs → xs[i]? = some x, fun i H => ∃ xs : List V, SqT K H a xs ∧ xs.length = i⟩
theorem turn_enumT {P : Program} {w : World} {K : PySem.W.Frag} {elts : List Expr} {kk : Nat} {tpos : Pos} (a e it : Addr) :
    Turn P w K (.Tuple elts kk tpos) (IteT K a) [e, it] e (fun i h => (∃ old, IsEnum h e it ((i : Nat) : Int) old) ∧ h.IsTupleIter it a i ∧ e ≠ it ∧ a ≠ e ∧ a ≠ it) where
  mem := by simp
  obj := fun i h st b hb => by
    obtain ⟨⟨old, he⟩, ⟨o, ho, hc, hd⟩, _⟩ := st
    have e' : b = e ∨ b = it := by simpa using hb
    rcases e' with z | z
    · subst z; exact ⟨_, he, fun v q => nomatch q⟩
    · subst z; exact ⟨o, ho, fun v q => by rw [hd] at q; cases q⟩
  keep := fun i h h' st k => by
    obtain ⟨⟨old, he⟩, hi, hne⟩ := st
    exact ⟨⟨old, k e (by simp) _ he⟩, hi.at fun o q => k it (by simp) o q, hne⟩
  item := by
    intro X hP hw hK hc i pins s σ H E I hf st hg
    subst hP hw hK
    obtain ⟨⟨old, he⟩, hit, hne, hae, hai⟩ := st
    obtain ⟨xs, x, hq, hx⟩ := hg
    obtain ⟨its, rv, ht, hz⟩ := I.tuple hq
    obtain ⟨u, hu, ru⟩ := rv.get hx
    have lt1 : e < s.heap.objs.size := Heap.lt_size he
    have lt2 : it < s.heap.objs.size := by obtain ⟨_, q, _⟩ := hit; exact Heap.lt_size q
    have dr := Draws.tuple (prog := X.prog) (w := X.w) (A := X.A.in1) (I.ok.hd hc) it a hai its.toArray
    have hin : i < its.toArray.size := by
      have := (List.getElem?_eq_some_iff.mp hu).1
      simpa using this
    refine wpAny_pyNext_enum_itemD dr he ⟨hit, ht⟩ hin hne (by simp [hne, Ne.symm hae]) fun x' h' tk hx' ho st' hT hsz hk => ?_
    have ex : x' = u := by
      have h1 : its.toArray[i]? = some x' := hx'
      have h2 : its.toArray[i]? = some u := by simpa using hu
      rw [h1] at h2; exact Option.some.inj h2
    subst ex
    refine ⟨_, rfl, wpAny_letOwnedTupleGo_enum (s := { s with heap := h', toks := tk + 1 }) ho fun h'' he' sb => ?_⟩
    have hT2 : h''.get? s.heap.objs.size = some { cls := .type "tuple", data := .seq #[.int i tk, x'] } := (sb.2 _ (Nat.ne_of_gt lt1)).trans hT
    have newp : ObjOk X.prog X.w (upd H s.heap.objs.size (.tup [.int (i : Nat), x])) h'' s.heap.objs.size (.tup [.int (i : Nat), x]) :=
      ⟨by show 2 ≤ sizeLine; decide, [.int i tk, x'], .cons ⟨_, rfl⟩ (.cons ru .nil), ⟨_, hT2, rfl, _, rfl⟩⟩
    have I1 : Inv X pins σ (upd H s.heap.objs.size (.tup [.int (i : Nat), x])) { s with heap := h'', toks := tk + 1 } :=
      I.turnedNew (ch := [e, it]) (fun b ob hb q => (sb.2 b (fun z => hb (by simp [z]))).trans (hk b ob (fun z => hb (by simp [z])) (fun z => hb (by simp [z])) q)) hf (Nat.le_refl _) newp
    refine ⟨.ref s.heap.objs.size, _, I1, rfl, ⟨_, x, rfl, I.hok.fresh (Nat.le_refl _), rfl, fun ys hy => by rw [I.tuple_inj hy hq]; exact hx⟩, ⟨⟨x', ?_⟩, st'.1.at fun o q => (sb.2 it (Ne.symm hne)).trans q, hne, hae, hai⟩, fun b hb => ?_⟩
    · have e1 : ((i + 1 : Nat) : Int) = (i : Int) + 1 := by omega
      rw [e1]; exact he'
    · have ltb : b < s.heap.objs.size := by
        have e' : b = e ∨ b = it := by simpa using hb
        rcases e' with z | z
        · subst z; exact lt1
        · subst z; exact lt2
      rw [upd_ne (Nat.ne_of_lt ltb)]
      exact (hf b hb).1
  done := by
    intro X hP hw hK hc i pins s σ H E I hf st hg
    subst hP hw hK
    obtain ⟨⟨old, he⟩, hit, hne, hae, hai⟩ := st
    obtain ⟨xs, hq, hx⟩ := hg
    obtain ⟨its, rv, ht, hz⟩ := I.tuple hq
    obtain ⟨f0, f1, f2, f3, f4, f5⟩ := hf it (by simp)
    have dr := Draws.tuple (prog := X.prog) (w := X.w) (A := X.A.in1) (I.ok.hd hc) it a hai its.toArray
    have hn : its.toArray.size = i := by have := rv.length; simp; omega
    refine wpAny_pyNext_enum_endD dr he ?_ fun h' eb => ⟨rfl, I.turned (t' := s.toks) (fun b o hb q => eb b o hb q) f0 f1 f3 f4 f5⟩
    rw [hn]
    exact ⟨hit, ht⟩
  self := fun A i s Q E st h => by
    obtain ⟨⟨_, he⟩, _⟩ := st
    exact wpAny_pyIter_enum he h
def iEnumT (K : PySem.W.Frag) (ta : TA) : TI := fun σ H R => ta σ H fun vs H1 => ∃ a xs, vs = [.ref a] ∧ SqT K H1 a xs ∧ R (IteT K a) H1
theorem pi_enumT {X : Cx} {e : Expr} {ta : TA} {p pos tpos : Pos} {elts : List Expr} {kk : Nat} (hg : Gl X "enumerate") (hm : X.mg "enumerate" = none) (ha : PA X [e] ta) (hs : starEach [e] X.env = [(false, eval e X.env)]) :
    PI X (.Tuple elts kk tpos) (.Call (.Name "enumerate" p) [e] [] pos) (iEnumT X.K ta) := by
  constructor
  intro pins s σ H R I h
  refine Call_ (ld_blt I hg hm boot_enumerate (PyProof.Rows.callWith_type1 (thn (ha.run pos pins s σ H _ I h) fun us s1 ⟨vs, H1, I1, r1, q1⟩ => ?_) hs rfl))
  obtain ⟨a, xs, ex, hq, q⟩ := q1
  subst ex
  obtain ⟨u, rfl, ru⟩ := vals1 r1
  obtain rfl : u = Value.ref a := ru
  obtain ⟨its, rv, ht, hz⟩ := I1.tuple hq
  have lta : a < s1.heap.objs.size := by obtain ⟨o, ho, _⟩ := ht; exact Heap.lt_size ho
  refine call_enum1 (begins_tuple a its.toArray) ht fun h' he hit hsz hk => wpAny_pyIter_enum he ?_
  have I2 : Inv X pins σ H1 { s1 with heap := h' } := I1.kept (t' := s1.toks) hk
  refine ⟨s1.heap.objs.size + 1, [s1.heap.objs.size + 1, s1.heap.objs.size], _, _, H1, rfl, I2, turn_enumT a (s1.heap.objs.size + 1) s1.heap.objs.size, ⟨⟨.none, he⟩, ⟨_, hit, rfl, rfl⟩, Nat.succ_ne_self _, Nat.ne_of_lt (Nat.lt_succ_of_lt lta), Nat.ne_of_lt lta⟩, fun b hb => ?_, q⟩
  have e' : b = s1.heap.objs.size + 1 ∨ b = s1.heap.objs.size := by simpa using hb
  have hle : s1.heap.objs.size ≤ b := by
    rcases e' with z | z
    · subst z; exact Nat.le_add_right _ _
    · subst z; exact Nat.le_refl _
  exact I1.fpOk hle (I1.hok.fresh hle)
/-- the pairs of places and items -/
def enumD : Nat → List D → List D
  | _, [] => []
  | n, d :: ds => .tup [.int n, d] :: enumD (n + 1) ds
theorem enumD_length : ∀ (n : Nat) (ds : List D), (enumD n ds).length = ds.length
  | _, [] => rfl
  | n, d :: ds => by simp [enumD, enumD_length (n + 1) ds]
theorem enumD_get : ∀ {n : Nat} {ds : List D} {i : Nat} {d : D}, ds[i]? = some d → (enumD n ds)[i]? = some (.tup [.int ((n + i : Nat) : Int), d])
  | _, [], _, _, h => by simp at h
  | n, d :: ds, 0, _, h => by simp at h; subst h; rfl
  | n, d :: ds, i + 1, e, h => by
    have := enumD_get (n := n + 1) (ds := ds) (i := i) (d := e) (by simpa using h)
    have e2 : n + 1 + i = n + (i + 1) := by omega
    rw [e2] at this
    simpa [enumD] using this
section
variable {X : Cx} {ρ ρ1 : Env} {e : Expr} {ds : List D} {u : D} {pos pp tpos : Pos} {elts : List Expr} {kk : Nat}
theorem yd_pair {K : PySem.W.Frag} {S0 : Hp} {vs : List V} (h : RpAll K S0 vs ds) {i : Nat} {H : Hp} {x v : V} {T : Addr} {H1 : Hp} (e1 : v = .ref T) (e2 : H T = none) (e3 : H1 = upd H T (.tup [.int (i : Nat), x])) (e4 : vs[i]? = some x) : YD K S0 (enumD 0 ds) i H v H1 := fun S e eS => by
  obtain ⟨d, h1, h2⟩ := h.get e4
  have hS : S T = none := eS.back e2
  refine ⟨_, enumD_get h1, .inr (.inl ⟨T, _, e2, e3, ?_⟩)⟩
  rw [e1, Nat.zero_add]
  exact .tup upd_same (.cons (.int _) (.cons ((h2.mono e).mono (.new hS)) .nil))
/-- for i, x in enumerate(e), e a list or a tuple -/
theorem it_enum (ha : ED X ρ e (.d u) ρ1) (hu : u.seq? = some ds) (hg : Gl X "enumerate") (hm : X.mg "enumerate" = none) (hs : starEach [e] X.env = [(false, eval e X.env)] := by rfl) :
    ItD X ρ (.Tuple elts kk tpos) (.Call (.Name "enumerate" pp) [e] [] pos) (enumD 0 ds) ρ1 := by
  have hA : AD X ρ [e] [.d u] ρ1 := ad_cons ha ad_nil (hs.trans rfl)
  cases u with
  | lst ds' =>
    cases hu
    exact it_of (pi_enum hg hm hA hs) fun σ H Q ⟨fr, S, ad, A, k⟩ => ⟨fr, S, ad, A, fun S1 H1 ad1 vs st1 A1 r1 => by
      obtain ⟨v, rfl, r⟩ := rv1 r1
      obtain ⟨a, ys, e1, e2, e3⟩ := r.dd.lst_inv
      refine ⟨a, ys, by rw [e1], ex_l A1.grow.sh e2, k S1 H1 ad1 _ st1 A1 ?_⟩
      have w := walk_enum (K := X.K) (a := a) (xs := ys)
      rw [e3.length, ← enumD_length 0] at w
      exact w.mono (fun H h => ex_l h e2) fun i H x H' _ _ ⟨T, p, q, h1, h2, h3, h4, h5⟩ => by
        cases h4
        exact yd_pair e3 h1 h2 h3 h5⟩
  | tup ds' =>
    cases hu
    exact it_of (pi_enumT hg hm hA hs) fun σ H Q ⟨fr, S, ad, A, k⟩ => ⟨fr, S, ad, A, fun S1 H1 ad1 vs st1 A1 r1 => by
      obtain ⟨v, rfl, r⟩ := rv1 r1
      obtain ⟨a, ys, e1, e2, e3⟩ := r.dd.tup_inv
      refine ⟨a, ys, by rw [e1], ex_t A1.grow.sh e2, k S1 H1 ad1 _ st1 A1 ?_⟩
      have hl : (enumD 0 ds).length = ys.length := by rw [enumD_length, e3.length]
      rw [hl]
      refine ⟨fun i H hi h => ⟨ys, ys[i], ex_t h e2, by simp [hi]⟩, fun H h => ⟨ys, ex_t h e2, rfl⟩, fun i H x H' hi h ⟨T, q, h1, h2, h3, h4⟩ => ?_⟩
      exact yd_pair e3 h1 h2 h3 (h4 ys (ex_t h e2))⟩
  | ktp ds' =>
    cases hu
    exact it_of (pi_enumT hg hm hA hs) fun σ H Q ⟨fr, S, ad, A, k⟩ => ⟨fr, S, ad, A, fun S1 H1 ad1 vs st1 A1 r1 => by
      obtain ⟨v, rfl, r⟩ := rv1 r1
      obtain ⟨a, ys, e1, e2, e3⟩ := r.dd.ktp_inv
      refine ⟨a, ys, by rw [e1], ex_t A1.grow.sh e2, k S1 H1 ad1 _ st1 A1 ?_⟩
      have hl : (enumD 0 ds).length = ys.length := by rw [enumD_length, e3.length]
      rw [hl]
      refine ⟨fun i H hi h => ⟨ys, ys[i], ex_t h e2, by simp [hi]⟩, fun H h => ⟨ys, ex_t h e2, rfl⟩, fun i H x H' hi h ⟨T, q, h1, h2, h3, h4⟩ => ?_⟩
      exact yd_pair e3 h1 h2 h3 (h4 ys (ex_t h e2))⟩
  | _ => cases hu
end
end DL

namespace DL
open PySem PySem.Spec PyProof.Rows L2
/-! ### match x: case [a, b] if guard: .. case _: .. -/
def MissV (K : PySem.W.Frag) (H : Hp) (v : V) : Prop := (∃ a xs, v = .ref a ∧ (SqL K H a xs ∨ SqT K H a xs) ∧ xs.length ≠ 2) ∨ v = .non ∨ (∃ b, v = .bl b) ∨ (∃ i, v = .int i) ∨ ∃ z, v = .str z
def tMatch2 (K : PySem.W.Frag) (i j : Nat) (te : TE) (tg : TT) (tb1 tb2 : TS) : TS := fun D σ H => te σ H fun v H1 =>
  (∃ a x y, v = .ref a ∧ (SqL K H1 a [x, y] ∨ SqT K H1 a [x, y]) ∧ tg ((σ.set i (some x)).set j (some y)) H1 fun b H2 => if b = true then tb1 D ((σ.set i (some x)).set j (some y)) H2 else tb2 D ((σ.set i (some x)).set j (some y)) H2) ∨
  (MissV K H1 v ∧ tb2 D σ H1)
theorem small63 {n : Nat} (h : n ≤ sizeLine) : (n : Int) < 2 ^ 63 := by
  rw [sizeLine_eq] at h; omega
theorem ps_match2 {X : Cx} {i j : Nat} {n1 n2 : Str} {sub g : Expr} {b1 b2 : List Stmt} {p1 p2 p3 p4 pos : Pos} {te : TE} {tg : TT} {tb1 tb2 : TS} (hc : X.calm = true) (hN : X.N.Nodup) (hi : X.N[i]? = some n1) (hj : X.N[j]? = some n2) (hx : Loc X.env.scope n1) (hy : Loc X.env.scope n2)
    (hfx : X.fn n1 = true ∨ X.env.scope.names.lookup n1 = some .local) (hfy : X.fn n2 = true ∨ X.env.scope.names.lookup n2 = some .local)
    (he : PE X sub te) (hg : PT X g tg) (h1 : PSs X b1 tb1) (h2 : PSs X b2 tb2) :
    PS X (.Match sub [⟨.MatchSequence [.MatchAs none (some n1) p1, .MatchAs none (some n2) p2] p3, some g, b1⟩, ⟨.MatchAs none none p4, none, b2⟩] pos) (tMatch2 X.K i j te tg tb1 tb2) := by
  constructor
  intro pins s σ H D I h
  refine wpAny_Match (thn (he.run pins s σ H _ I h) fun v s1 ⟨x, H1, I1, r1, q1⟩ => ?_)
  have dflt : ∀ {σ' : L2.St} {H' : Hp} {s' : Shared}, Inv X pins σ' H' s' → tb2 D σ' H' → wpAny (model X.prog X.w) X.A (matchCases [⟨.MatchAs none none p4, none, b2⟩] X.env v false) (SP X pins D) X.xe s' := by
    intro σ' H' s' I' q
    refine wpAny_matchCases_cons (wpAny_matchPattern_Capture ?_)
    show wpAny _ _ (assignInOrder [] []) _ _ _
    exact wpAny_assignInOrder_none (h2.run pins s' σ' H' D I' q)
  refine wpAny_matchCases_cons ?_
  rcases q1 with ⟨a, y, z, e1, hq, q⟩ | ⟨miss, q⟩
  · subst e1
    obtain rfl : v = Value.ref a := r1
    have fin : ∀ {u1 u2 : Value} {s2 : Shared}, Inv X pins σ H1 s2 → RelV y u1 → RelV z u2 → wpAny (model X.prog X.w) X.A (matchEach [.MatchAs none (some n1) p1, .MatchAs none (some n2) p2] X.env [u1, u2]) (fun r s₁ => match r with
          | none => wpAny (model X.prog X.w) X.A (matchCases [⟨.MatchAs none none p4, none, b2⟩] X.env (.ref a) false) (SP X pins D) X.xe s₁
          | some bs => wpAny (model X.prog X.w) X.A (assignInOrder (bs.map fun (n, _) => bindName X.env n) (bs.map (·.2))) (fun _ s₂ =>
              wpAny (model X.prog X.w) X.A (isTrue g X.env (eval g X.env))
                  (fun ok s₃ => if ok then wpAny (model X.prog X.w) X.A (execs b1 X.env) (SP X pins D) X.xe s₃ else wpAny (model X.prog X.w) X.A (matchCases [⟨.MatchAs none none p4, none, b2⟩] X.env (.ref a) false) (SP X pins D) X.xe s₃) X.xe s₂) X.xe s₁) X.xe s2 := by
      intro u1 u2 s2 I2 ry rz
      refine wpAny_matchEach_cons (wpAny_matchPattern_Capture (wpAny_matchEach_cons (wpAny_matchPattern_Capture (wpAny_matchEach_nil ?_))))
      show wpAny _ _ (assignInOrder [bindName X.env n1, bindName X.env n2] [u1, u2]) _ _ _
      refine wpAny_assignInOrder_more (wpAny_bindName (store_ok I2 hN hi hx ry (fun s3 I3 => ?_) hfx))
      refine wpAny_assignInOrder_more (wpAny_bindName (store_ok I3 hN hj hy rz (fun s4 I4 => ?_) hfy))
      refine wpAny_assignInOrder_none ?_
      refine thn (hg.run pins s4 _ H1 _ I4 q) fun bb s5 ⟨H5, I5, q5⟩ => ?_
      cases bb with
      | true => exact h1.run pins s5 _ H5 D I5 q5
      | false => exact dflt I5 q5
    rcases hq with hq | hq
    · obtain ⟨its, rv, pl, hz⟩ := I1.list hq
      obtain ⟨u1, u2, rfl, ry, rz⟩ := vals2 rv
      refine matchSeq_list_hit pl.isList (by show ((2 : Nat) : Int) < 2 ^ 63; decide) rfl ?_
      refine PySem.W.kun_itemsOf (s := { s1 with toks := s1.toks + 1 + 1 }) (items := #[u1, u2]) (I.ok.hd hc) pl.isList fun h' hx' => ?_
      exact fin (s2 := { s1 with heap := h', toks := s1.toks + 1 + 1 }) (I1.kept (h' := h') (t' := s1.toks + 1 + 1) fun b o e => hx' b o (Nat.ne_of_lt (Heap.lt_size e)) e) ry rz
    · obtain ⟨its, rv, ht, hz⟩ := I1.tuple hq
      obtain ⟨u1, u2, rfl, ry, rz⟩ := vals2 rv
      refine matchSeq_tuple_hit ht (by show ((2 : Nat) : Int) < 2 ^ 63; decide) rfl ?_
      refine unpackItems_tuple (items := #[u1, u2]) (I.ok.hd hc) ht fun h' hx' => ?_
      exact fin (s2 := { s1 with heap := h', toks := s1.toks + 1 + 1 }) (I1.kept (h' := h') (t' := s1.toks + 1 + 1) fun b o e => hx' b o (Nat.ne_of_lt (Heap.lt_size e)) e) ry rz
  · have bad : ∀ {t : Nat}, Inv X pins σ H1 { s1 with toks := t } := fun {t} => I1.tok t
    rcases miss with ⟨a, xs, e1, hq, hl⟩ | e1 | ⟨b, e1⟩ | ⟨i', e1⟩ | ⟨z, e1⟩
    · subst e1
      obtain rfl : v = Value.ref a := r1
      rcases hq with hq | hq
      · obtain ⟨its, rv, pl, hz⟩ := I1.list hq
        exact matchSeq_list_miss pl.isList (small63 (by rw [List.size_toArray, ← rv.length]; exact hz)) (by rw [List.size_toArray, ← rv.length]; exact hl) (dflt bad q)
      · obtain ⟨its, rv, ht, hz⟩ := I1.tuple hq
        exact matchSeq_tuple_miss ht (small63 (by rw [List.size_toArray, ← rv.length]; exact hz)) (by rw [List.size_toArray, ← rv.length]; exact hl) (dflt bad q)
    · subst e1
      cases (show v = Value.none from r1)
      refine wpAny_matchPattern_Sequence (wpAny_collectionFlag (T := "NoneType") rfl flag_seq_None ?_)
      exact dflt I1 q
    · subst e1
      cases (show v = Value.bool b from r1)
      refine wpAny_matchPattern_Sequence (wpAny_collectionFlag (T := "bool") rfl flag_seq_bool ?_)
      exact dflt I1 q
    · subst e1
      obtain ⟨t, rfl⟩ := (show ∃ t, v = Value.int i' t from r1)
      refine wpAny_matchPattern_Sequence (wpAny_collectionFlag (T := "int") rfl flag_seq_int ?_)
      exact dflt I1 q
    · subst e1
      obtain ⟨t, rfl⟩ := (show ∃ t, v = Value.str z t from r1)
      refine wpAny_matchPattern_Sequence (wpAny_collectionFlag (T := "str") rfl flag_seq_str ?_)
      exact dflt I1 q
section
variable {X : Cx} {ρ ρ1 ρ2 : Env} {sub g : Expr} {b1 b2 r : List Stmt} {p1 p2 p3 p4 pos : Pos} {n1 n2 : Str} {d x y : D} {ds : List D} {p : Bool} {k : Kn}
/-- it fits -/
theorem sds_matchHit (i j : Nat) (he : ED X ρ sub (.d d) ρ1) (hd : d.seq? = some [x, y]) (hg : TD X ((ρ1.put i (.d x)).put j (.d y)) g p ρ2) (h1 : p = true → SDs X ρ2 b1 { k with nx := fun ρ' => SDs X ρ' r k }) (h2 : p = false → SDs X ρ2 b2 { k with nx := fun ρ' => SDs X ρ' r k })
    (hc : X.calm = true) (hN : X.N.Nodup) (hi : X.N[i]? = some n1) (hj : X.N[j]? = some n2) (hx : Loc X.env.scope n1) (hy : Loc X.env.scope n2) (hfx : X.fn n1 = true ∨ X.env.scope.names.lookup n1 = some .local) (hfy : X.fn n2 = true ∨ X.env.scope.names.lookup n2 = some .local) :
    SDs X ρ (.Match sub [⟨.MatchSequence [.MatchAs none (some n1) p1, .MatchAs none (some n2) p2] p3, some g, b1⟩, ⟨.MatchAs none none p4, none, b2⟩] pos :: r) k := by
  refine sds_cons (sd_of (ps_match2 hc hN hi hj hx hy hfx hfy he hg (pss_any (P := fun ρ' k' => p = true ∧ ρ' = ρ2 ∧ k' = { k with nx := fun ρ' => SDs X ρ' r k }) fun ρ' k' h => ?_) (pss_any (P := fun ρ' k' => p = false ∧ ρ' = ρ2 ∧ k' = { k with nx := fun ρ' => SDs X ρ' r k }) fun ρ' k' h => ?_)) fun Dn σ H ⟨fr, S, ad, A, kk⟩ => ⟨fr, S, ad, A, fun S1 H1 ad1 v st A1 r1 => ?_⟩)
  · obtain ⟨h, rfl, rfl⟩ := h; exact h1 h
  · obtain ⟨h, rfl, rfl⟩ := h; exact h2 h
  · obtain ⟨a, vs, e1, e2, e3⟩ := r1.dd.seq hd
    cases e3 with
    | cons ra t =>
      cases t with
      | cons rb t =>
        cases t
        refine .inl ⟨a, _, _, e1, e2.imp (ex_l A1.grow.sh) (ex_t A1.grow.sh), fr, S1, ad1, (A1.setSl (.d ra)).setSl (.d rb), fun S2 H2 ad2 st2 A2 => ?_⟩
        cases p with
        | true => exact iteT ⟨ρ2, _, ⟨rfl, rfl, rfl⟩, fr, S2, ad2, A2, kk⟩
        | false => exact iteF ⟨ρ2, _, ⟨rfl, rfl, rfl⟩, fr, S2, ad2, A2, kk⟩
/-- it does not -/
def D.miss : D → Bool
  | .lst ds => ds.length != 2
  | .tup ds => ds.length != 2
  | .non => true | .bl _ => true | .int _ => true | .str _ => true
  | _ => false
theorem sds_matchMiss (he : ED X ρ sub (.d d) ρ1) (hd : d.miss = true) (h2 : SDs X ρ1 b2 { k with nx := fun ρ' => SDs X ρ' r k })
    {i j : Nat} (hc : X.calm = true) (hN : X.N.Nodup) (hi : X.N[i]? = some n1) (hj : X.N[j]? = some n2) (hx : Loc X.env.scope n1) (hy : Loc X.env.scope n2) (hfx : X.fn n1 = true ∨ X.env.scope.names.lookup n1 = some .local) (hfy : X.fn n2 = true ∨ X.env.scope.names.lookup n2 = some .local) :
    SDs X ρ (.Match sub [⟨.MatchSequence [.MatchAs none (some n1) p1, .MatchAs none (some n2) p2] p3, some g, b1⟩, ⟨.MatchAs none none p4, none, b2⟩] pos :: r) k := by
  have hg : PT X g (fun _ _ _ => False) := ⟨fun _ _ _ _ _ _ h => h.elim⟩
  have hb : PSs X b1 (fun _ _ _ => False) := ⟨fun _ _ _ _ _ _ h => h.elim⟩
  refine sds_cons (sd_of (ps_match2 hc hN hi hj hx hy hfx hfy he hg hb h2) fun Dn σ H ⟨fr, S, ad, A, kk⟩ => ⟨fr, S, ad, A, fun S1 H1 ad1 v st A1 r1 => .inr ⟨?_, fr, S1, ad1, A1, kk⟩⟩)
  have rp := r1.dd
  unfold MissV
  cases rp with
  | non => exact .inr (.inl rfl)
  | bl b => exact .inr (.inr (.inl ⟨b, rfl⟩))
  | int z => exact .inr (.inr (.inr (.inl ⟨z, rfl⟩)))
  | str z => exact .inr (.inr (.inr (.inr ⟨z, rfl⟩)))
  | lst q t =>
    have hd : (_ != 2) = true := hd
    exact .inl ⟨_, _, rfl, .inl (ex_l A1.grow.sh q), by rw [t.length]; simpa using hd⟩
  | tup q t =>
    have hd : (_ != 2) = true := hd
    exact .inl ⟨_, _, rfl, .inr (ex_t A1.grow.sh (SqT.of q)), by rw [t.length]; simpa using hd⟩
  | _ => cases hd
end
end DL

namespace DL
open PySem PySem.Spec PyProof.Rows L2
theorem relV_ni {v : V} (h : RelV v .notImplemented) : False := by
  cases v with
  | non => exact nomatch (show Value.notImplemented = Value.none from h)
  | bl b => exact nomatch (show Value.notImplemented = Value.bool b from h)
  | ref a => exact nomatch (show Value.notImplemented = Value.ref a from h)
  | ty n => exact nomatch (show Value.notImplemented = Value.type n from h)
  | int i => obtain ⟨t, z⟩ := (show ∃ t, Value.notImplemented = Value.int i t from h); cases z
  | str i => obtain ⟨t, z⟩ := (show ∃ t, Value.notImplemented = Value.str i t from h); cases z
  | byt i => obtain ⟨t, z⟩ := (show ∃ t, Value.notImplemented = Value.bytes i t from h); cases z
  | flt i => obtain ⟨t, z⟩ := (show ∃ t, Value.notImplemented = Value.float i t from h); cases z
theorem CX0_pass {X : Cx} {E : XK} : Passes CX0 X E := fun _ _ _ _ _ _ _ h => h.elim
section
variable {X : Cx} {ρ ρ' ρ1 ρ2 ρ3 : Env} {e a b c fe : Expr} {es : List Expr} {x y z : VD} {xs ys : List VD} {pos pp apos spos : Pos} {ds dt : List D} {n m : Str} {R : FSpec} {C : Addr} {ns : List Str}
theorem AllD.tr1 {ks : List Nat} {xs : List VD} {ds : List D} {d : D} (h : AllD xs ds) : TrAll ks (.d d :: xs) (.d d :: xs) := .cons (.d _) h.tr
/-- o.m(e, ..) of data -/
theorem ed_meth {rr : D} {pl : Sem Bool} (F : CM X C m R) (ho : ED X ρ a (.d (.ins C ns ds)) ρ1) (ha : AD X ρ1 (e :: es) xs ρ2) (hd : AllD xs dt) (hR : R (.d (.ins C ns ds) :: xs) [] rr []) (hm : m ∉ ns)
    (hst : starEach (e :: es) X.env = (false, eval e X.env) :: starEach es X.env := by rfl) (hpl : (backTo pos (starEach es X.env)).any (·.1) = false := by rfl)
    (ht : eval (.Call (.Attribute a m apos) (e :: es) [] pos) X.env = (do
      let ov ← eval a X.env
      standAt apos.atName
      let (f, first) ← holding [ov] (getMethod ov m pl)
      callWith pos f first (backTo pos (starEach (e :: es) X.env)) (backToKw pos (keywordEach [] X.env))) := by rfl) :
    ED X ρ (.Call (.Attribute a m apos) (e :: es) [] pos) (.d rr) ρ2 := by
  obtain ⟨f, j, G, hr, hM⟩ := F.ex
  refine ed_of (pe_methR (E := E0) (pl := pl) ho F.cl hM G hr CX0_pass ha hst hpl ht) fun σ H Q ⟨fr, S, ad, A, kk⟩ => ⟨fr, S, ad, A, fun S1 H1 ad1 v st1 A1 r1 => ?_⟩
  obtain ⟨l, dx, vs, e1, e2, e3, e4⟩ := r1.dd.ins_inv
  refine ⟨l, dx, _, e1, A1.grow.sh _ _ e2, lookup_zip_none hm, fr, S1, ad1, A1, fun S2 H2 ad2 ws st2 A2 r2 => ?_⟩
  exact A2.call (.cons (r1.mono st2) r2) hd.tr1 Lend.nil hR rfl fun S' H' v' st' A' rp => kk S' H' ad2 v' ((st1.trans st2).trans st') A' (.d rp)
/-- an instance is called: f(e, ..) -/
structure COs (P : Program) (w : World) (K : PySem.W.Frag) (mg : Str → Option Value) (base : Heap) (A : Around) (C : Addr) (R : FSpec) : Prop where
  ex : ∃ f j, FnR P w K mg base CX0 j f (spF K R) ∧ Room j A ∧ StX.CallO K C f
/-! ### len(o), o + p by own methods -/
theorem ins_inst {pins : List (Addr × Obj)} {σ : L2.St} {H : Hp} {s : Shared} {l dx : Addr} {fs : List (Str × V)} (I : Inv X pins σ H s) (h : H l = some (.ins C dx fs)) : ∃ ox od, PySem.W.InstAt s.heap l ox C od := by
  obtain ⟨mA, O, _⟩ := ins_get I.hok h
  obtain ⟨od, J, _⟩ := O.look
  exact ⟨_, _, J⟩
/-- a special method of the class at C, one call deeper -/
structure CSs (P : Program) (w : World) (K : PySem.W.Frag) (mg : Str → Option Value) (base : Heap) (A : Around) (C : Addr) (m : Str) (R : FSpec) : Prop where
  ex : ∃ f j, FnR P w K mg base CX0 j f (spF K R) ∧ Room (j + 1) A ∧ PySem.W.findIn K (.ref C) m = some (some (.ref f)) ∧ PySem.W.isFn K (.ref f) = true ∧ PySem.W.selfFirst K C = true
abbrev CS (X : Cx) : Addr → Str → FSpec → Prop := CSs X.prog X.w X.K X.mg X.base X.A
def rBinO (C : Addr) (sp : Sp) : R2 := fun x y H Q => ∃ l dx fs l' dx' fs', x = .ref l ∧ y = .ref l' ∧ H l = some (.ins C dx fs) ∧ H l' = some (.ins C dx' fs') ∧ sp [x, y] H Q E0
theorem op_binO {op : Operator} {f : Addr} {j : Nat} {sp : Sp} (F : FnR X.prog X.w X.K X.mg X.base CX0 j f sp) (hr : Room j X.A) (hc : PySem.W.selfFirst X.K C = true) (hf : PySem.W.findIn X.K (.ref C) (PySem.dunder op.info.2) = some (some (.ref f))) (hi : PySem.W.isFn X.K (.ref f) = true) :
    OpR X (binaryOp op) (rBinO C sp) := by
  intro pins s σ H x y u v Q I rx ry h
  obtain ⟨l, dx, fs, l', dx', fs', rfl, rfl, hl, hl', hq⟩ := h
  obtain rfl : u = Value.ref l := rx
  obtain rfl : v = Value.ref l' := ry
  obtain ⟨ox, od, J⟩ := ins_inst I hl
  obtain ⟨ox', od', J'⟩ := ins_inst I hl'
  obtain ⟨mm, Fr0⟩ := I.fr
  refine PySem.W.binop_K Fr0 I.mod.kin J J'.type hc hf hi (thn (wpAny_call (run_fnR (E := E0) (vs := [.ref l, .ref l']) F hr CX0_pass I (.cons rfl (.cons rfl .nil)) hq)) fun w s1 ⟨v, H1, I1, rv, q⟩ => ?_)
  have hne : w ≠ .notImplemented := fun z => by subst z; exact relV_ni rv
  have fin : EP X pins σ Q w s1 := ⟨v, H1, I1, rv, q⟩
  cases w <;> first | exact absurd rfl hne | exact fin
theorem ed_binO {op : Operator} {rr : D} {ds' : List D} (F : CS X C (PySem.dunder op.info.2) R)
    (ha : ED X ρ a (.d (.ins C ns ds)) ρ1) (hb : ED X ρ1 b (.d (.ins C ns ds')) ρ2) (hR : R [.d (.ins C ns ds), .d (.ins C ns ds')] [] rr []) : ED X ρ (.BinOp a op b pos) (.d rr) ρ2 := by
  obtain ⟨f, j, G, hr, hf, hi, hc⟩ := F.ex
  exact ed_of (pe_op (op_binO G (hr.mono (Nat.le_succ j)) hc hf hi) ha hb) fun σ H Q hk => two_ σ H Q _ hk fun fr S ad S1 H1 ad1 v1 v2 A st r1 r2 kk => by
    obtain ⟨l, dx, vs, e1, e2, e3, e4⟩ := r1.dd.ins_inv
    obtain ⟨l', dx', vs', f1, f2, f3, f4⟩ := r2.dd.ins_inv
    refine ⟨l, dx, _, l', dx', _, e1, f1, A.grow.sh _ _ e2, A.grow.sh _ _ f2, ?_⟩
    exact A.call (xs := [.d (.ins C ns ds), .d (.ins C ns ds')]) (.cons r1 (.cons r2 .nil)) (.cons (.d _) (.cons (.d _) .nil)) Lend.nil hR rfl fun S' H' v' st' A' rp => kk S' H' ad1 v' st' A' (.d rp)
/-! ### making an instance -/
/-- what __init__ promises: self is the lent object, empty ahead -/
structure MKs (P : Program) (w : World) (K : PySem.W.Frag) (mg : Str → Option Value) (base : Heap) (A : Around) (C : Addr) (x : Str) (R : FSpec) : Prop where
  ex : ∃ f j, FnR P w K mg base CX0 j f (spF K R) ∧ Room (j + 1) A ∧ Mk K C f ∧ mg x = some (.ref C)
abbrev MKc (X : Cx) : Addr → Str → FSpec → Prop := MKs X.prog X.w X.K X.mg X.base X.A
/-- __init__ at the new instance -/
theorem make_sp {K : PySem.W.Frag} {fr : Fr} {σ : L2.St} {S H : Hp} {ad : List Addr} {vs : List V} {Q : VK} {o : OD} {dd : D} (A : Rel K fr ρ σ S H ad) (hv : RvAll K S ad vs xs) (hd : AllD xs ds) (hR : R (.loc 0 :: xs) [.ins C [] []] .non [o]) (ho : ODD o dd) {l dx : Addr} (h1 : H l = none) (h2 : H dx = none) (h3 : dx ≠ l)
    (k : ∀ S' H', Step S ad S' ad → Rel K fr ρ σ S' H' ad → Rp K S' (.ref l) dd → Q (.ref l) H') : spF K R (.ref l :: vs) (upd (upd H dx (.own l)) l (.ins C dx [])) (fun v H2 => v = .non ∧ Q (.ref l) H2) E0 := by
  have S1 : S l = none := A.grow.sh.back h1
  have S2 : S dx = none := A.grow.sh.back h2
  have exH : Ex H (upd (upd H dx (.own l)) l (.ins C dx [])) := (Ex.new h2).trans (Ex.new (by rw [upd_ne h3.symm]; exact h1))
  refine ⟨S, [l], .loc 0 :: xs, [.ins C [] []], .non, [o], A.grow.sh.trans exH, .cons (.loc rfl) ?_, ⟨rfl, fun n u e => ?_⟩, by simp, hR, fun u hu => ?_, fun S' H' v g rp oa => ⟨rp.non_inv, ?_⟩⟩
  · have := hd.rp hv
    clear hR
    induction hd generalizing vs with
    | nil => cases hv; exact .nil
    | cons _ ih =>
      cases hv with
      | cons r t =>
        cases this with
        | cons a b => exact .cons (.d a) (ih t b)
  · cases n with
    | zero =>
      simp at e
      subst e
      exact ⟨l, _, rfl, S1, upd_same, rfl, [], rfl, rfl, .nil⟩
    | succ n => simp at e
  · have : u = .ins C [] [] := by simpa using hu
    subst this
    exact ⟨[], .nil⟩
  · -- the new instance is data from now on
    obtain ⟨l', ho', e1, e2, e3, e4⟩ := oa.at_ 0 o rfl
    have : l' = l := by simpa using e1.symm
    subst this
    have hst : Step S' ad (upd S' l' ho') ad := ⟨.new e2, [], by simp⟩
    have hst0 : Step S ad S' ad := ⟨g.s, [], by simp⟩
    have rp' : Rp K (upd S' l' ho') (.ref l') dd := by
      have e4 : OR K (upd S' l' ho') ad l' ho' o := OR.mono (S := S') (ad := []) ⟨hst.s, ad, by simp⟩ e4
      cases ho with
      | lst ds => cases ho' <;> first | exact e4.elim | exact .lst (SqL.of upd_same) e4
      | ins C' ns hA =>
        cases ho' <;> first | exact e4.elim | skip
        obtain ⟨h0, vs, h1, h2, h3⟩ := e4
        subst h0 h1
        exact .ins upd_same h2 (hA.rp h3)
    have keep : ∀ a u, H a = some u → H' a = some u := fun a u e => g.h a u (exH a u e) (by simp; exact ne_of_none e h1)
    have none' : ∀ a, S a = none → H a ≠ none → (∀ xs, H a ≠ some (.tup xs)) → S' a = none := fun a e1 e2 e3 => by
      cases q : H a with
      | none => exact absurd q e2
      | some u => exact g.n a e1 (by rw [exH a u q]; simp) (by rw [exH a u q, ← q]; exact e3)
    have fr0 : fr.H l' = none := A.fr0 h1
    refine k (upd S' l' ho') H' (hst0.trans hst) ⟨⟨A.grow.s.trans (hst0.s.trans hst.s), fun a u e => ?_, fun a u e hm => keep a u (A.grow.h a u e hm), fun a f1 f2 f3 => ?_⟩, fun i w e => ?_, fun i u e => ?_, A.mm, A.nd, A.len, A.al, A.ml, fun a ha => ?_⟩ rp'
    · by_cases h : a = l'
      · subst h; rw [upd_same] at e; cases e; exact e3
      · rw [upd_ne h] at e; exact g.sh a u e
    · have ne : a ≠ l' := fun z => f2 (z ▸ fr0)
      rw [upd_ne ne]
      exact none' a (A.grow.n a f1 f2 f3) (A.old f2) (A.ntup f2 f3)
    · obtain ⟨v', q1, q2⟩ := A.slots i w e
      exact ⟨v', q1, q2.mono (hst0.trans hst)⟩
    · obtain ⟨l2, u2, q1, q2, q3, q4, q5⟩ := A.own i u e
      have ne : l2 ≠ l' := ne_of_none q3 h1
      exact ⟨l2, u2, q1, by rw [upd_ne ne]; exact none' l2 q2 (by rw [q3]; simp) (fun xs z => by rw [q3] at z; cases z; exact q4.ntup), keep l2 u2 q3, q4.mono (hst0.trans hst), q5⟩
    · cases q : H a with
      | none => exact absurd q (A.lv a ha)
      | some u => rw [keep a u q]; simp
/-- C(e, ..) -/
theorem ed_make {o : OD} {dd : D} (F : MKc X C n R) (ha : AD X ρ (e :: es) xs ρ1) (hd : AllD xs ds) (hR : R (.loc 0 :: xs) [.ins C [] []] .non [o]) (ho : ODD o dd) (hg : Gl X n) (hdb : (n == ("__debug__" : Str)) = false := by decide)
    (he : starEach (e :: es) X.env = (false, eval e X.env) :: starEach es X.env := by rfl) (hpl : (backTo pos (starEach es X.env)).any (·.1) = false := by rfl) : ED X ρ (.Call (.Name n pp) (e :: es) [] pos) (.d dd) ρ1 := by
  obtain ⟨f, j, G, hr, hM, hm⟩ := F.ex
  exact ed_of (StX.pe_makeR (E := E0) hM G hr hg hm CX0_pass ha hdb he hpl) fun σ H Q ⟨fr, S, ad, A, kk⟩ => ⟨fr, S, ad, A, fun S1 H1 ad1 vs st1 A1 r1 l dx h1 h2 h3 =>
    make_sp A1 r1 hd hR ho h1 h2 h3 fun S' H' st' A' rp => kk S' H' ad1 _ (st1.trans st') A' (.d rp)⟩
/-- C() -/
theorem pe_makeR0 {k : Nat} {f : Addr} {sp : Sp} (M : Mk X.K C f) (F : FnR X.prog X.w X.K X.mg X.base CX0 k f sp) (hr : Room (k + 1) X.A) (hg : Gl X n) (hm : X.mg n = some (.ref C)) (hdb : (n == ("__debug__" : Str)) = false) : PE X (.Call (.Name n pp) [] [] pos) (StX.tMakeR C sp E0 tNil) := by
  constructor
  intro pins s σ H Q I h
  refine wpAny_Call_Name_kw (ld_glob I hg hm ?_ hdb)
  exact PySem.W.callWith_K0 I.kIn M.kp (StX.run_makeR (E := E0) (us := []) (vs := []) M F hr CX0_pass I .nil h)
theorem ed_make0 {o : OD} {dd : D} (F : MKc X C n R) (hR : R [.loc 0] [.ins C [] []] .non [o]) (ho : ODD o dd) (hg : Gl X n) (hdb : (n == ("__debug__" : Str)) = false := by decide) : ED X ρ (.Call (.Name n pp) [] [] pos) (.d dd) ρ := by
  obtain ⟨f, j, G, hr, hM, hm⟩ := F.ex
  exact ed_of (pe_makeR0 hM G hr hg hm hdb) fun σ H Q ⟨fr, S, ad, A, kk⟩ l dx h1 h2 h3 =>
    make_sp A .nil .nil hR ho h1 h2 h3 fun S' H' st' A' rp => kk S' H' ad _ st' A' (.d rp)
/-- C(*e) -/
theorem pe_makeS {k : Nat} {f : Addr} {sp : Sp} {te : TE} (M : Mk X.K C f) (F : FnR X.prog X.w X.K X.mg X.base CX0 k f sp) (hr : Room (k + 1) X.A) (hg : Gl X n) (hm : X.mg n = some (.ref C)) (he : PE X e te) (hdb : (n == ("__debug__" : Str)) = false)
    (hst : starEach [.Starred e spos] X.env = [(true, eval e X.env)]) :
    PE X (.Call (.Name n pp) [.Starred e spos] [] pos) (fun σ H Q => te σ H fun y H1 => ∃ a vs, y = V.ref a ∧ (SqT X.K H1 a vs ∨ SqL X.K H1 a vs) ∧ ∀ x dx, H1 x = none → H1 dx = none → dx ≠ x →
      sp (.ref x :: vs) (upd (upd H1 dx (.own x)) x (.ins C dx [])) (fun v H2 => v = .non ∧ Q (.ref x) H2) E0) := by
  constructor
  intro pins s σ H Q I h
  refine wpAny_Call_Name_kw (ld_glob I hg hm ?_ hdb)
  refine PySem.W.callWith_S (h₀ := X.base) I.ok.mod.kin M.kp (thn (he.run pins s σ H _ I h) fun v s1 ⟨y, H1, I1, ry, a, vs, ey, hxs, q⟩ => ?_) hst
  subst ey
  obtain rfl : v = Value.ref a := ry
  exact StX.star_any I1 hxs fun us s2 I2 rv => ⟨I2.kIn, StX.run_makeR (E := E0) M F hr CX0_pass I2 rv q⟩
theorem ed_makeS {o : OD} {dd u : D} (F : MKc X C n R) (ha : ED X ρ e (.d u) ρ1) (hu : u.seq? = some ds) (hR : R (.loc 0 :: ds.map VD.d) [.ins C [] []] .non [o]) (ho : ODD o dd) (hg : Gl X n) (hdb : (n == ("__debug__" : Str)) = false := by decide)
    (hst : starEach [.Starred e spos] X.env = [(true, eval e X.env)] := by rfl) : ED X ρ (.Call (.Name n pp) [.Starred e spos] [] pos) (.d dd) ρ1 := by
  obtain ⟨f, j, G, hr, hM, hm⟩ := F.ex
  exact ed_of (pe_makeS hM G hr hg hm ha hdb hst) fun σ H Q ⟨fr, S, ad, A, kk⟩ => ⟨fr, S, ad, A, fun S1 H1 ad1 v st1 A1 r1 => by
    obtain ⟨a, vs, e1, e2, e3⟩ := r1.dd.seq hu
    refine ⟨a, vs, e1, (e2.imp (ex_l A1.grow.sh) (ex_t A1.grow.sh)).symm, fun l dx h1 h2 h3 => ?_⟩
    exact make_sp A1 (.of_d e3) (.of_map ds) hR ho h1 h2 h3 fun S' H' st' A' rp => kk S' H' ad1 _ (st1.trans st') A' (.d rp)⟩
end
end DL

namespace DL
open PySem PySem.Spec PyProof.Rows L2
/-! ### def f(a, *rest) -/
/-- the arguments behind the first are put into a tuple -/
def starR (R : FSpec) : FSpec := fun xs os r os' => ∃ (z : VD) (rest : List VD) (ds : List D), xs = z :: rest ∧ AllD rest ds ∧ ds.length ≤ sizeLine ∧ R [z, .d (.tup ds)] os r os'
section
variable {P : Program} {w : World} {K : PySem.W.Frag} {mg : Str → Option Value} {base : Heap} {x qual : Str} {params : Arguments} {body : List Stmt} {scope : Scope} {f : Addr} {fd : FuncData} {N : List Str} {j : Nat} {R : FSpec} {p1 pv : Str}
theorem fn_starD (F : FunD K x qual params body scope [] [] f fd) (sc : FnScope N [p1, pv] scope)
    (h0 : ∀ (kV doc pm : Value) (an : Option Addr) (cdv ct a : Value), bindArgs (PySem.W.fnOf x qual params body scope .none kV doc pm an cdv ct) ⟨[a], []⟩ = (newTuple [] >>= fun t => pure [(p1, a), (pv, t)]))
    (h1 : ∀ (kV doc pm : Value) (an : Option Addr) (cdv ct a r : Value) (rs : List Value), bindArgs (PySem.W.fnOf x qual params body scope .none kV doc pm an cdv ct) ⟨a :: r :: rs, []⟩ = (newTuple (r :: rs) >>= fun t => pure [(p1, a), (pv, t)]))
    (hlen : ∀ xs os r os', R xs os r os' → xs.length = 2 ∧ os'.length = os.length ∧ ∀ o ∈ os', o.free)
    (hbody : ∀ (cdv : Value) (A : Around) (outer : List PySem.Env) (s : Shared) (H : Hp) (E : XK), Room j (A.deeper (envOfC qual scope s.heap.objs.size f cdv)) → ∀ xs os r os', R xs os r os' → (∀ o ∈ os, o.free) →
      SDs (cxOf CX0 P w K mg base N qual scope f cdv A outer s H E).nox (env0 N xs os) body (kn0 os.length r os')) : FnR P w K mg base CX0 (j + 1) f (spF K (starR R)) := by
  obtain ⟨oc, od, dV, kV, doc, pm, an, cdv, ct, osl, rfl, lk, hcd, hdf, _⟩ := F.ex
  have hdV : dV = .none := by
    rcases hdf with ⟨_, e⟩ | ⟨e, _⟩
    · exact e
    · exact absurd rfl e
  subst hdV
  have G := StX.fn_star (P := P) (w := w) (mg := mg) (base := base) (k := j) (CX := CX0) (ps := [p1]) (pv := pv) (sp := spF K R) lk hcd sc StX.cxUp_none
    (StX.bind_star1 (B := fun l => bindArgs (PySem.W.fnOf x qual params body scope .none kV doc pm an cdv ct) ⟨l, []⟩) (p1 := p1) (pv := pv) (fun a => h0 kV doc pm an cdv ct a) (fun a r rs => h1 kV doc pm an cdv ct a r rs)) (fun A outer s H vs Q E hr h => ?_)
  · refine G.imp fun vs H Q E h => ?_
    obtain ⟨S, M, xs, os, rr, os', hS, hv, ho, hM, ⟨z, rest, ds, rfl, ha, hz, hR⟩, hf, k⟩ := h
    cases hv with
    | @cons v vs' _ _ rz rrest =>
      have ra := ha.rp rrest
      refine ⟨[v], vs', rfl, rfl, by rw [ra.length]; exact hz, fun p hp => ?_⟩
      have hSp : S p = none := hS.back hp
      have st : Step S M (upd S p (.tup vs')) M := ⟨.new hSp, [], by simp⟩
      refine ⟨upd S p (.tup vs'), M, [z, .d (.tup ds)], os, rr, os', hS.both, .cons (rz.mono st) (.cons (.d (.tup upd_same (ra.mono st.s))) .nil), ⟨ho.len, fun n o e => ?_⟩, hM, hR, hf, fun S' H' v' g rp oa => k S' H' v' ⟨st.s.trans g.s, g.sh, fun a o e hm => g.h a o (by rw [upd_ne (ne_of_none e hp)]; exact e) hm, fun a e1 e2 e3 => g.n a ?_ ?_ ?_⟩ rp oa⟩
      · obtain ⟨l, hu, e1, e2, e3, e4⟩ := ho.at_ n o e
        have ne : l ≠ p := ne_of_none e3 hp
        exact ⟨l, hu, e1, by rw [upd_ne ne]; exact e2, by rw [upd_ne ne]; exact e3, OR.mono (ad := []) ⟨st.s, [], by simp⟩ e4⟩
      · have ne : a ≠ p := fun q => e2 (q ▸ hp)
        rw [upd_ne ne]; exact e1
      · exact upd_some e2
      · have ne : a ≠ p := fun q => e2 (q ▸ hp)
        rw [upd_ne ne]; exact e3
  · obtain ⟨S, M, xs, os, rr, os', hS, hv, ho, hM, h5, hf, k⟩ := h
    obtain ⟨l1, l2, l3⟩ := hlen _ _ _ _ h5
    refine ⟨_, (hbody cdv A outer s H E hr xs os rr os' h5 hf).nox, body_read hS hv ho hM ?_ l3 l2 k⟩
    have := congrArg List.length sc.pre
    rw [List.length_take] at this
    simp at this
    omega
end
/-! ### in, not in; index; slices; sorted -/
section
variable {X : Cx} {ρ ρ' ρ1 ρ2 ρ3 : Env} {e a b c fe : Expr} {es : List Expr} {x y z : VD} {xs ys : List VD} {pos pp apos spos : Pos} {ds dt : List D} {n m : Str} {R : FSpec} {C : Addr} {ns : List Str} {u : D}
theorem inV_ints {i : Int} : ∀ {l : List Int}, inV (.int i) (l.map V.int) = decide (i ∈ l)
  | [] => by simp [inV]
  | j :: l => by
    have ih := inV_ints (i := i) (l := l)
    unfold inV at ih ⊢
    rw [List.map_cons, List.any_cons, ih]
    by_cases h : j = i
    · subst h; simp [eqV]
    · have h' : ¬ i = j := fun z => h z.symm
      simp [eqV, h, h']
theorem flat_ints (l : List Int) : (l.map V.int).all flatV = true := by
  rw [List.all_map]; simp [List.all_eq_true, flatV]
theorem td_inI {neg : Bool} {op : CmpOp} {i : Int} {l : List Int} (ho : OpR X (compareOp op) (rIn X.K neg)) (ha : ED X ρ a (.d (.int i)) ρ1) (hb : ED X ρ1 b (.d u) ρ2) (hu : u.seq? = some (l.map D.int)) (hm : behindInMarks op b = false) :
    TD X ρ (.Compare a [op] [b] pos) (if neg then !decide (i ∈ l) else decide (i ∈ l)) ρ2 :=
  td_of (pt_cmpR ho ha hb hm) fun σ H Q hk => td_two σ H Q _ hk fun fr S ad S1 H1 ad1 v1 v2 A st r1 r2 Q' kk => by
    obtain ⟨p, vs, e1, e2, e3⟩ := r2.dd.seq hu
    have e4 := e3.ints
    subst e4
    refine ⟨p, _, e1, e2.imp (ex_l A.grow.sh) (ex_t A.grow.sh), by rw [r1.di]; rfl, flat_ints l, ?_⟩
    rw [r1.di, inV_ints]
    exact kk S1 H1 ad1 (.refl _ _) A
theorem td_nin {i : Int} {l : List Int} (ha : ED X ρ a (.d (.int i)) ρ1) (hb : ED X ρ1 b (.d u) ρ2) (hu : u.seq? = some (l.map D.int)) (hm : behindInMarks .NotIn b = false := by rfl) : TD X ρ (.Compare a [.NotIn] [b] pos) (!decide (i ∈ l)) ρ2 := td_inI op_notIn_seq ha hb hu hm
/-- xs[lo:hi] of a list -/
def cutD (ds : List D) (lo hi : Option Int) : List D := (ds.drop (HT.sIx ds.length 0 lo)).take (HT.sIx ds.length ds.length hi - HT.sIx ds.length 0 lo)
theorem cutD_ok {K : PySem.W.Frag} {S : Hp} {vs : List V} (h : RpAll K S vs ds) (lo hi : Option Int) : RpAll K S (cutV vs lo hi) (cutD ds lo hi) := by
  unfold cutV cutD
  rw [h.length]
  exact (h.drop _).take _
/-- a part of a slice -/
def PD (X : Cx) (ρ : Env) (e : Option Expr) (o : Option Int) (ρ' : Env) : Prop := PO X e (fun σ H Q => ∃ fr S ad, Rel X.K fr ρ σ S H ad ∧ ∀ S' H' ad', Step S ad S' ad' → Rel X.K fr ρ' σ S' H' ad' → Q o H')
theorem pd_none : PD X ρ none none ρ := ⟨fun pins s σ H Q I ⟨fr, S, ad, A, k⟩ => po_none.run pins s σ H Q I (k S H ad (.refl _ _) A)⟩
theorem pd_some {i : Int} (h : ED X ρ e (.d (.int i)) ρ1) : PD X ρ (some e) (some i) ρ1 := ⟨fun pins s σ H Q I ⟨fr, S, ad, A, k⟩ => (po_some h).run pins s σ H Q I ⟨fr, S, ad, A, fun S1 H1 ad1 v st1 A1 r1 => ⟨i, r1.di, k S1 H1 ad1 st1 A1⟩⟩⟩
theorem ed_slice {lo hi : Option Expr} {i j : Option Int} {p2 : Pos} (ha : ED X ρ a (.d (.lst ds)) ρ1) (hl : PD X ρ1 lo i ρ2) (hh : PD X ρ2 hi j ρ3) : ED X ρ (.Subscript a (.Slice lo hi none p2) pos) (.d (.lst (cutD ds i j))) ρ3 :=
  ed_of (pe_slice sl_list ha hl hh) fun σ H Q ⟨fr, S, ad, A, kk⟩ => ⟨fr, S, ad, A, fun S1 H1 ad1 v st1 A1 r1 => ⟨fr, S1, ad1, A1, fun S2 H2 ad2 st2 A2 => ⟨fr, S2, ad2, A2, fun S3 H3 ad3 st3 A3 => by
    obtain ⟨l, vs, e1, e2, e3⟩ := (r1.mono (st2.trans st3)).dd.lst_inv
    refine ⟨l, vs, e1, ex_l A3.grow.sh e2, fun p hp => ?_⟩
    obtain ⟨A4, st4⟩ := A3.newS (o := .lst (cutV vs i j)) hp
    exact kk _ _ ad3 _ (((st1.trans st2).trans st3).trans st4) A4 (.d (.lst (SqL.of upd_same) ((cutD_ok e3 i j).mono st4.s)))⟩⟩⟩
/-- xs[::-1] of a list -/
theorem ed_revL {k1 : Nat} {q1 q2 q3 : Pos} (ha : ED X ρ a (.d (.lst ds)) ρ1) : ED X ρ (.Subscript a (.Slice none none (some (.UnaryOp .USub (.Constant (.int 1) k1 q1) q2)) q3) pos) (.d (.lst ds.reverse)) ρ1 :=
  ed_of (pe_revL ha) fun σ H Q ⟨fr, S, ad, A, kk⟩ => ⟨fr, S, ad, A, fun S1 H1 ad1 v st1 A1 r1 => by
    obtain ⟨l, vs, e1, e2, e3⟩ := r1.dd.lst_inv
    refine ⟨l, vs, e1, ex_l A1.grow.sh e2, fun p hp => ?_⟩
    obtain ⟨A2, st2⟩ := A1.newS (o := .lst vs.reverse) hp
    exact kk _ _ ad1 _ (st1.trans st2) A2 (.d (.lst (SqL.of upd_same) (e3.reverse.mono st2.s)))⟩
end
end DL

namespace DL
open PySem PySem.Spec PyProof.Rows L2
theorem allD1 {a : D} : AllD [.d a] [a] := .cons .nil
theorem allD2 {a b : D} : AllD [.d a, .d b] [a, b] := .cons allD1
theorem allD3 {a b c : D} : AllD [.d a, .d b, .d c] [a, b, c] := .cons allD2
theorem allD4 {a b c d : D} : AllD [.d a, .d b, .d c, .d d] [a, b, c, d] := .cons allD3
theorem allD5 {a b c d e : D} : AllD [.d a, .d b, .d c, .d d, .d e] [a, b, c, d, e] := .cons allD4
theorem allD6 {a b c d e f : D} : AllD [.d a, .d b, .d c, .d d, .d e, .d f] [a, b, c, d, e, f] := .cons allD5
/-! ### isinstance against a built-in class, by kinds -/
inductive Kd | non | bl | int | str | byt | lst | tup | dic
def D.kd : D → Option Kd
  | .non => some .non | .bl _ => some .bl | .int _ => some .int | .str _ => some .str | .byt _ => some .byt | .lst _ => some .lst | .tup _ => some .tup | .dic _ _ => some .dic
  | _ => none
def Kd.nm : Kd → String
  | .non => "NoneType" | .bl => "bool" | .int => "int" | .str => "str" | .byt => "bytes" | .lst => "list" | .tup => "tuple" | .dic => "dict"
theorem kd_tyn {d : D} {k : Kd} (h : d.kd = some k) : d.tyn = some k.nm := by
  cases d <;> cases h <;> rfl
def Kd.isInt : Kd → Bool | .int => true | .bl => true | _ => false
def Kd.isBool : Kd → Bool | .bl => true | _ => false
def Kd.isStr : Kd → Bool | .str => true | _ => false
def Kd.isTup : Kd → Bool | .tup => true | _ => false
def Kd.isLst : Kd → Bool | .lst => true | _ => false
theorem kit_int : ∀ k : Kd, kitB k.nm "int" = some k.isInt := by intro k; cases k <;> decide +kernel
theorem kit_bool : ∀ k : Kd, kitB k.nm "bool" = some k.isBool := by intro k; cases k <;> decide +kernel
theorem kit_str : ∀ k : Kd, kitB k.nm "str" = some k.isStr := by intro k; cases k <;> decide +kernel
theorem kit_tup : ∀ k : Kd, kitB k.nm "tuple" = some k.isTup := by intro k; cases k <;> decide +kernel
theorem kit_lst : ∀ k : Kd, kitB k.nm "list" = some k.isLst := by intro k; cases k <;> decide +kernel
section
variable {X : Cx} {ρ : Env} {d : D} {k : Kd}
end
end DL

namespace DL
open PySem PySem.Spec PyProof.Rows L2 HT
/-! ### t[::-1] of a tuple -/
section
variable {prog : Program} {w : World} {A : Around} {E : Value → Shared → Prop} {s : Shared}
theorem sliceApplied_rev {sl : Addr} {t : Tok} {n : Nat} {Q : Int × Int × Nat → Shared → Prop} (hs : s.heap.IsSliceOf sl .none .none (.int (-1) t))
    (h : Q ((n : Int) - 1, -1, n) s) : wpAny (model prog w) A (Builtin.Slice.sliceApplied (.ref sl) (pure (n : Int))) Q E s := by
  obtain ⟨os, hos, hcs, hds⟩ := id hs
  unfold Builtin.Slice.sliceApplied Builtin.Slice.sliceFields
  refine wpAny_bind (wpAny_bind (wpAny_field hos hds (x := .none) rfl (wpAny_bind (wpAny_field hos hds (x := .none) rfl (wpAny_bind (wpAny_field hos hds (x := .int (-1) t) rfl (wpAny_pure ?_)))))))
  refine wpAny_bind (slicePart_ (.int (-1) t) ?_)
  show wpAny _ _ (if ((-1 : Int) == 0) = true then _ else _) _ _ s
  rw [if_neg (by decide)]
  refine wpAny_bind (slicePart_ .none (wpAny_bind (slicePart_ .none (wpAny_bind (wpAny_pure ?_)))))
  show wpAny _ _ (match Builtin.Slice.sliceAdjust none none (-1) (n : Int) with | (lo, hi) => pure (lo, (-1 : Int), Builtin.Slice.slicePlaces lo hi (-1))) _ _ s
  have e1 : Builtin.Slice.sliceAdjust none none (-1) (n : Int) = ((n : Int) - 1, -1) := by
    unfold Builtin.Slice.sliceAdjust; simp
  rw [e1]
  show wpAny _ _ (pure ((n : Int) - 1, (-1 : Int), Builtin.Slice.slicePlaces ((n : Int) - 1) (-1) (-1))) _ _ s
  have e2 : Builtin.Slice.slicePlaces ((n : Int) - 1) (-1) (-1) = n := by
    unfold Builtin.Slice.slicePlaces
    rw [if_neg (by decide)]
    by_cases h0 : (n : Int) - 1 > -1
    · rw [if_pos h0, show (- -1 : Int) = 1 by decide, Int.ediv_one]; omega
    · rw [if_neg h0]; omega
  rw [e2]
  exact wpAny_pure h
theorem pick_rev (xs : Array Value) : ((List.range xs.size).filterMap fun (m : Nat) => xs[(((xs.size : Int) - 1) + (m : Int) * (-1)).toNat]?).toArray = xs.toList.reverse.toArray := by
  have e : ((List.range xs.size).filterMap fun (m : Nat) => xs[(((xs.size : Int) - 1) + (m : Int) * (-1)).toNat]?) = ((List.range xs.size).map (fun k => xs.size - 1 - k)).filterMap (xs[·]?) := by
    rw [List.filterMap_map]
    have aux : ∀ l : List Nat, (∀ m ∈ l, m < xs.size) → (l.filterMap fun (m : Nat) => xs[(((xs.size : Int) - 1) + (m : Int) * (-1)).toNat]?) = l.filterMap ((fun x => xs[x]?) ∘ fun k => xs.size - 1 - k) := by
      intro l
      induction l with
      | nil => intro _; rfl
      | cons m l ih =>
        intro hl
        have hm := hl m (by simp)
        have e2 : (((xs.size : Int) - 1) + (m : Int) * (-1)).toNat = xs.size - 1 - m := by omega
        rw [List.filterMap_cons, List.filterMap_cons, ih (fun z hz => hl z (by simp [hz])), e2]; rfl
    exact aux _ fun m hm => List.mem_range.mp hm
  rw [e, PySem.W.krv_range, List.filterMap_reverse, PySem.W.krv_all]
theorem getItem_tuple_rev {t sl : Addr} {items : Array Value} {tk : Tok} {Q : Value → Shared → Prop} (ht : IsTup s.heap t items) (hs : s.heap.IsSliceOf sl .none .none (.int (-1) tk))
    (h : Q (.ref s.heap.objs.size) { s with heap := s.heap.push { cls := .type "tuple", data := .seq items.toList.reverse.toArray } })
    (hsz : items.size ≤ sizeLine) : wpAny (model prog w) A (getItem (.ref t) (.ref sl)) Q E s := by
  have htake : sizeOk (.seq items.toList.reverse.toArray) := by
    show items.toList.reverse.toArray.size ≤ sizeLine
    rw [List.size_toArray, List.length_reverse, Array.length_toList]; exact hsz
  obtain ⟨os, hos, hcs, hds⟩ := id hs
  have hTs : s.TypeIs (.ref sl) "slice" := ⟨os, hos, hcs⟩
  unfold getItem
  try with_reducible refine wpAny_holding ?_
  first | refine wpAny_bind (wpAny_pure ?_) | skip
  refine wpAny_bind (wpAny_sequenceKey ht.typeIs (by decide) ?_)
  refine wpAny_bind (wpAny_callSpecial?_slot (name := Str.ofString "__getitem__") ht.typeIs PyProof.Rows.slot_tuple_getitem
    (wpAny_call_entry PyProof.Rows.slot_tuple_getitem ht.typeIs entry_tuple_getitem ?_ (args_tuple_getitem _ _)))
  show wpAny _ _ (Builtin.Tuple.tupleItemsOf (.ref t) >>= _) _ _ s
  refine wpAny_bind (tupleItemsOf_ ht ?_)
  refine wpAny_bind (wpAny_typeOf hTs ?_)
  rw [if_pos (by decide)]
  refine wpAny_bind (sliceApplied_rev hs ?_)
  have hno : ¬ ((((items.size : Int) - 1) == 0 && (-1 : Int) == 1 && items.size == items.size) = true) := by simp
  show wpAny _ _ (if (((items.size : Int) - 1) == 0 && (-1 : Int) == 1 && items.size == items.size) = true then _ else _) _ _ s
  rw [if_neg hno, pick_rev]
  first
    | exact wpAny_bind (m := Builtin.Tuple.tupleExact _) (wpAny_newObj_type (wpAny_pure ⟨_, rfl, wpAny_pure h⟩) htake)
    | exact wpAny_bind (m := Builtin.Tuple.tupleExact _) (wpAny_newObj_type (wpAny_bind (wpAny_pure (wpAny_pure ⟨_, rfl, wpAny_pure h⟩))) htake)
    | exact wpAny_bind (wpAny_bind (m := Builtin.Tuple.tupleExact _) (wpAny_newObj_type (wpAny_pure (wpAny_pure ⟨_, rfl, wpAny_pure h⟩)) htake))
    | exact wpAny_bind (wpAny_bind (m := Builtin.Tuple.tupleExact _) (wpAny_newObj_type (wpAny_pure ⟨_, rfl, wpAny_pure h⟩) htake))
end
section
variable {X : Cx} {ρ ρ' ρ1 ρ2 ρ3 : Env} {e a b c tg iter elt : Expr} {es rest ifs : List Expr} {x y z : VD} {pos : Pos} {p q : Bool} {st : Stmt} {r body orelse : List Stmt} {k : Kn} {ds ds' : List D} {u u' d d' : D}
def tRevT (K : PySem.W.Frag) (te : TE) : TE := fun σ H Q => te σ H fun v H1 => ∃ a xs, v = .ref a ∧ SqT K H1 a xs ∧ ∀ p, H1 p = none → Q (.ref p) (upd H1 p (.tup xs.reverse))
theorem pe_revT {e : Expr} {te : TE} {k : Nat} {p1 p2 p3 pos : Pos} (he : PE X e te) : PE X (.Subscript e (.Slice none none (some (.UnaryOp .USub (.Constant (.int 1) k p1) p2)) p3) pos) (tRevT X.K te) := by
  refine ⟨fun pins s σ H Q I h => ?_⟩
  refine Subscript_ (thn (he.run pins s σ H _ I h) fun v s1 ⟨x, H1, I1, r1, q1⟩ => ?_)
  obtain ⟨a, xs, ex, hx, q⟩ := q1
  subst ex
  cases r1
  have hst : PO X (some (.UnaryOp .USub (.Constant (.int 1) k p1) p2)) (tPart (tUn (rU fun i => .int (-i)) (tC (.int 1)))) := po_some (pe_un un_neg pe_int)
  refine wpAny_Slice (thn (po_none.run pins s1 σ H1 (fun o H2 => o = none ∧ H2 = H1) I1 ⟨rfl, rfl⟩) fun vl s2 ⟨l, H2, I2, pl, el, e2⟩ => ?_)
  subst el e2
  refine thn (po_none.run pins s2 σ H2 (fun o H3 => o = none ∧ H3 = H2) I2 ⟨rfl, rfl⟩) fun vu s3 ⟨u, H3, I3, pu, eu, e3⟩ => ?_
  subst eu e3
  refine thn (hst.run pins s3 σ H3 (fun o H4 => o = some (-1) ∧ H4 = H3) I3 ⟨1, rfl, -1, rfl, rfl, rfl⟩) fun vs s4 ⟨o, H4, I4, ps, eo, e4⟩ => ?_
  subst eo e4
  cases pl
  cases pu
  cases ps with
  | int _ tk =>
  have I5 : Inv X pins σ H4 { s4 with heap := s4.heap.push { cls := .type "slice", data := .fields #[.none, .none, .int (-1) tk] } } := I4.kept (t' := s4.toks) fun b ob q => Heap.get?_push_of_some _ q
  obtain ⟨its, r, ht, hz⟩ := I5.tuple hx
  have hlen := r.length
  show wpAny (model X.prog X.w) X.A (subscriptTail e (.Slice none none (some (.UnaryOp .USub (.Constant (.int 1) k p1) p2)) p3) (.ref a) (.ref s4.heap.objs.size)) (EP X pins σ Q) X.xe { s4 with heap := s4.heap.push { cls := .type "slice", data := .fields #[.none, .none, .int (-1) tk] } }
  refine tail_any (ops := [.ref a, .ref s4.heap.objs.size]) ht.typeIs (PyProof.Rows.slot_tuple_getitem.lookup) ?_ (by with_unfolding_all rfl)
  refine getItem_tuple_rev ht (Heap.IsSliceOf.new _ .none .none (.int (-1) tk)) ?_ (by rw [List.size_toArray]; omega)
  refine ⟨.ref _, _, I5.laid (t' := s4.toks) (o := .tup xs.reverse) (fun b ob q => Heap.get?_push_of_some _ q) (Nat.le_refl _) ?_, rfl, q _ (I5.hok.fresh (Nat.le_refl _))⟩
  exact ⟨by rw [List.length_reverse]; exact hz, _, r.reverse, IsTup.new _ _⟩
theorem ed_revT {k1 : Nat} {q1 q2 q3 : Pos} (ha : ED X ρ a (.d (.tup ds)) ρ1) : ED X ρ (.Subscript a (.Slice none none (some (.UnaryOp .USub (.Constant (.int 1) k1 q1) q2)) q3) pos) (.d (.tup ds.reverse)) ρ1 :=
  ed_of (pe_revT ha) fun σ H Q ⟨fr, S, ad, A, kk⟩ => ⟨fr, S, ad, A, fun S1 H1 ad1 v st1 A1 r1 => by
    obtain ⟨l, vs, e1, e2, e3⟩ := r1.dd.tup_inv
    refine ⟨l, vs, e1, ex_t A1.grow.sh e2, fun p hp => ?_⟩
    obtain ⟨A2, st2⟩ := A1.newS (o := .tup vs.reverse) hp
    exact kk _ _ ad1 _ (st1.trans st2) A2 (.d (.tup upd_same (e3.reverse.mono st2.s)))⟩
/-- t + t' -/
theorem ed_catT (ha : ED X ρ a (.d (.tup ds)) ρ1) (hb : ED X ρ1 b (.d (.tup ds')) ρ2) (hz : ds.length + ds'.length ≤ sizeLine) : ED X ρ (.BinOp a .Add b pos) (.d (.tup (ds ++ ds'))) ρ2 :=
  ed_of (pe_op op_catA ha hb) fun σ H Q hk => two_ σ H Q _ hk fun fr S ad S1 H1 ad1 v1 v2 A st r1 r2 kk => by
    obtain ⟨l1, vs1, e1, e2, e3⟩ := r1.dd.tup_inv
    obtain ⟨l2, vs2, f1, f2, f3⟩ := r2.dd.tup_inv
    have n1 := e3.length
    have n2 := f3.length
    refine ⟨l1, l2, vs1, vs2, e1, f1, ex_t A.grow.sh e2, ex_t A.grow.sh f2, by omega, fun z => ?_, fun _ z => ?_, fun _ _ p hp => ?_⟩
    · subst z
      cases e3
      exact kk S1 H1 ad1 _ (.refl _ _) A (by rw [← f1]; exact r2)
    · subst z
      cases f3
      exact kk S1 H1 ad1 _ (.refl _ _) A (by rw [← e1, List.append_nil]; exact r1)
    · obtain ⟨A2, st2⟩ := A.newS (o := .tup (vs1 ++ vs2)) hp
      exact kk _ _ ad1 _ st2 A2 (.d (.tup upd_same ((e3.append f3).mono st2.s)))
/-- a tuple constant of the module -/
theorem ed_gtup {n : Str} {i : Addr} {vs : List V} (hm : X.mg n = some (.ref i)) (ht : ∀ H, SqT X.K H i vs) (hd : ∀ S, RpAll X.K S vs ds) (hg : Gl X n) (hdb : (n == ("__debug__" : Str)) = false := by decide) : ED X ρ (.Name n pos) (.d (.ktp ds)) ρ :=
  ed_of (ed_gref (ρ := ρ) hm hg hdb) fun σ H Q ⟨fr, S, ad, A, kk⟩ => ⟨fr, S, ad, A, fun S1 H1 ad1 v st A1 r => kk S1 H1 ad1 v st A1 (by
    cases r with
    | d h =>
      cases h
      exact .d (.ktp (ht S1) (hd S1)))⟩
def strsIn (z : Str) (l : List Str) : Bool := l.any fun y => y == z
theorem td_ninS {z : Str} {l : List Str} (ha : ED X ρ a (.d (.str z)) ρ1) (hb : ED X ρ1 b (.d u) ρ2) (hu : u.seq? = some (l.map D.str)) (hm : behindInMarks .NotIn b = false := by rfl) :
    TD X ρ (.Compare a [.NotIn] [b] pos) (!strsIn z l) ρ2 :=
  td_of (pt_cmpR op_notIn_seq ha hb hm) fun σ H Q hk => td_two σ H Q _ hk fun fr S ad S1 H1 ad1 v1 v2 A st r1 r2 Q' kk => by
    obtain ⟨p, vs, e1, e2, e3⟩ := r2.dd.seq hu
    have e4 : ∀ {l : List Str} {vs : List V}, RpAll X.K S1 vs (l.map D.str) → vs = l.map V.str := by
      intro l
      induction l with
      | nil => intro vs h; cases h; rfl
      | cons n ns ih =>
        intro vs h
        cases h with
        | cons a b => cases a; rw [ih b]; rfl
    have e5 := e4 e3
    subst e5
    refine ⟨p, _, e1, e2.imp (ex_l A.grow.sh) (ex_t A.grow.sh), by rw [r1.ds]; rfl, by rw [List.all_map]; simp [List.all_eq_true, flatV], ?_⟩
    have e6 : inV (.str z) (l.map V.str) = strsIn z l := by unfold inV strsIn; rw [List.any_map]; rfl
    rw [r1.ds, e6]
    exact kk S1 H1 ad1 (.refl _ _) A
/-! ### comprehensions that change nothing -/
def LcP (X : Cx) (scope : Scope) (gv vs : List Nat) (ρ1 : Env) (tg elt : Expr) (ifs : List Expr) (d : D) (o : Option D) : Prop :=
  ∃ ρ2 : Env, Blk X scope (fun Y => GD Y gv ⟨ρ1.m, wpE ρ1.sl vs, ρ1.ow⟩ tg (.d d) ρ2) ∧ ρ2.m = ρ1.m ∧ ρ2.ow = ρ1.ow ∧
    Blk X scope (fun Y => TDs Y ρ2 ifs o.isSome ρ2) ∧ ∀ e, o = some e → Blk X scope (fun Y => ED Y ρ2 elt (.d e) ρ2)
theorem lcP_turn {scope : Scope} {gv vs : List Nat} {o : Option D} {acc : List D} {ow : List (Option OD)} {J : List D → List (Option OD) → Prop} (h : LcP X scope gv vs ρ1 tg elt ifs d o) (how : ow = ρ1.ow) (hJ : J (acc ++ o.toList) ρ1.ow) : LcTurn X scope gv vs ρ1 tg elt ifs J d acc ow := by
  obtain ⟨⟨m2, sl2, ow2⟩, h1, hm, hw, h2, h3⟩ := h
  subst how
  cases hm
  cases hw
  refine ⟨sl2, o.isSome, ρ1.ow, h1, h2, fun hp => ?_, fun hp => ?_⟩
  · cases o with
    | none => cases hp
    | some e => exact ⟨e, ρ1.ow, h3 e rfl, hJ⟩
  · cases o with
    | none => simpa using hJ
    | some e => cases hp
theorem ed_lcP {α : Type} {xs : List α} {f : α → D} {gv : List Nat} {scope : Scope} {own : List (Str × Nat)} (hi : ItD X ρ tg iter (xs.map f) ρ1) (o : α → Option D)
    (hs : ∀ a, a ∈ xs → LcP X scope gv (own.map (·.2)) ρ1 tg elt ifs (f a) (o a)) (hz : xs.length ≤ sizeLine)
    (hgv : ∀ j ∈ gv, j ∈ own.map (·.2)) (ok : BlkOk X.N X.env.scope scope own) (hN : X.N.Nodup) (hc : X.calm = true) (hfs : ∀ x, foldedSetIterable iter X.env x = pure x) :
    ED X ρ (.ListComp elt [⟨tg, iter, ifs, 0⟩] scope pos) (.d (.lst (xs.filterMap o))) ρ1 := by
  have := ed_lcG (vs := []) (pos := pos) (elt := elt) (ifs := ifs) (gv := gv) hi (fun i acc ow => acc = (xs.take i).filterMap o ∧ ow = ρ1.ow) ⟨by simp, rfl⟩ (fun i d acc ow hd ⟨e1, e2⟩ => by
    rw [List.getElem?_map] at hd
    cases q : xs[i]? with
    | none => rw [q] at hd; cases hd
    | some a =>
      rw [q] at hd
      cases hd
      refine lcP_turn (hs a (List.mem_of_getElem? q)) e2 ⟨?_, rfl⟩
      rw [e1]
      have e3 : xs.take (i + 1) = xs.take i ++ [a] := by rw [List.take_add_one, q]; rfl
      rw [e3, List.filterMap_append]
      congr 1) (by simpa using hz) (out := xs.filterMap o) (ow' := ρ1.ow) (fun acc ow ⟨e1, e2⟩ => ⟨by rw [e1, List.length_map, List.take_length], e2⟩)
    (fun i acc ow ⟨e1, _⟩ => by rw [e1]; exact Nat.le_trans (List.length_filterMap_le _ _) (by simp; omega)) hgv ok hN hc hfs
  exact this
theorem sds_lcP (i : Nat) {n : Str} {pos' spos : Pos} {α : Type} {xs : List α} {f : α → D} {gv : List Nat} {scope : Scope} {own : List (Str × Nat)} (hi : ItD X ρ tg iter (xs.map f) ρ1) (o : α → Option D)
    (hs : ∀ a, a ∈ xs → LcP X scope gv (own.map (·.2)) ρ1 tg elt ifs (f a) (o a)) (h : SDs X (Env.put ρ1 i (.d (.lst (xs.filterMap o)))) r k) (hz : xs.length ≤ sizeLine)
    (hgv : ∀ j ∈ gv, j ∈ own.map (·.2)) (ok : BlkOk X.N X.env.scope scope own) (hN : X.N.Nodup) (hc : X.calm = true)
    (hi' : X.N[i]? = some n) (hyl : X.env.scope.names.lookup n = some .local) (hsw : swapsWith (.ListComp elt [⟨tg, iter, ifs, 0⟩] scope pos) (some (.Name n pos')) spos.line X.env = pure true) (hfs : ∀ x, foldedSetIterable iter X.env x = pure x) :
    SDs X ρ (.Assign [.Name n pos'] (.ListComp elt [⟨tg, iter, ifs, 0⟩] scope pos) spos :: r) k := by
  refine sds_lcG (gv := gv) (vs := []) i hi (fun i acc ow => acc = (xs.take i).filterMap o ∧ ow = ρ1.ow) ⟨by simp, rfl⟩ (fun i d acc ow hd ⟨e1, e2⟩ => by
    rw [List.getElem?_map] at hd
    cases q : xs[i]? with
    | none => rw [q] at hd; cases hd
    | some a =>
      rw [q] at hd
      cases hd
      refine lcP_turn (hs a (List.mem_of_getElem? q)) e2 ⟨?_, rfl⟩
      rw [e1]
      have e3 : xs.take (i + 1) = xs.take i ++ [a] := by rw [List.take_add_one, q]; rfl
      rw [e3, List.filterMap_append]
      congr 1) (by simpa using hz) (out := xs.filterMap o) (ow' := ρ1.ow) (fun acc ow ⟨e1, e2⟩ => ⟨by rw [e1, List.length_map, List.take_length], e2⟩)
    (fun i acc ow ⟨e1, _⟩ => by rw [e1]; exact Nat.le_trans (List.length_filterMap_le _ _) (by simp; omega)) h hgv ok hN hc hi' hyl hsw hfs
end
end DL

namespace DL
open PySem PySem.Spec PyProof.Rows L2
section
variable {X : Cx} {ρ ρ' ρ1 ρ2 ρ3 : Env} {e a b c tg iter elt : Expr} {es rest ifs : List Expr} {x y z : VD} {pos : Pos} {p q : Bool} {st : Stmt} {r body orelse : List Stmt} {k : Kn} {ds ds' : List D} {u u' d d' : D}
theorem ItD.to (h : ItD X ρ tg iter ds ρ1) (e1 : ds = ds') : ItD X ρ tg iter ds' ρ1 := e1 ▸ h
theorem enumD_zip {α : Type} (f : α → D) : ∀ (l : List α) (n : Nat), enumD n (l.map f) = (l.zipIdx n).map fun p => D.tup [.int (p.2 : Nat), f p.1]
  | [], n => rfl
  | a :: l, n => by
    rw [List.map_cons, List.zipIdx_cons, List.map_cons, ← enumD_zip f l (n + 1)]
    rfl
theorem ED.lst {ds : List D} (h : ED X ρ e (.d (.lst ds)) ρ1) (e1 : ds = ds') : ED X ρ e (.d (.lst ds')) ρ1 := e1 ▸ h
end
end DL

namespace DL
open PySem PySem.Spec PyProof.Rows L2
section
variable {X : Cx} {ρ ρ' ρ1 ρ2 ρ3 : Env} {e a b c tg iter elt : Expr} {es rest ifs : List Expr} {x y z : VD} {pos apos cpos : Pos} {p q : Bool} {st : Stmt} {r body orelse : List Stmt} {k : Kn} {ds ds' : List D} {u u' d d' : D}
/-- xs.append(e), a list of ours -/
theorem ed_app {d : D} {o : Nat} (ha : ED X ρ a (.loc o) ρ1) (hb : ED X ρ1 b (.d d) ρ2) (hw : ρ2.ow[o]? = some (some (.lst ds))) (hw1 : ∃ ds', ρ1.ow[o]? = some (some (.lst ds'))) (hz : ds.length < sizeLine)
    (hbase : attributeBase a "append" X.env (eval a X.env) = eval a X.env)
    (hfew : ((backTo cpos (starEach [b] X.env)).all (fun x => !x.1) && (backToKw cpos (keywordEach [] X.env)).all (fun x => x.1.isSome)
      && decide ([b].length + ([] : List Keyword).length + (if ([] : List Keyword).isEmpty then 0 else 1) < 30)) = true)
    (hline : (apos.endLine == cpos.line) = true) (hs : starEach [b] X.env = (false, eval b X.env) :: starEach [] X.env) (hplain : (backTo cpos (starEach [] X.env)).any (·.1) = false) :
    ED X ρ (.Call (.Attribute a "append" apos) [b] [] cpos) (.d .non) { ρ2 with ow := ρ2.ow.set o (some (.lst (ds ++ [d]))) } :=
  ed_append ha hb hw hw1 hz hs (pe_bm PySem.F.plainAttrs_list PySem.F.slot_list_append PySem.F.type_list_append mt_append ha (pa_cons hb pa_nil hs) hbase hfew hline hs hplain)
end
end DL

namespace DL
open PySem PySem.Spec PyProof.Rows L2
/-! ### equality of data -/
mutual
def D.py : D → PyData
  | .non => .none
  | .bl b => .bool b
  | .int i => .int i
  | .str x => .str x
  | .lst ds => .list (pyAll ds)
  | .tup ds => .tuple (pyAll ds)
  | _ => .none
def pyAll : List D → List PyData
  | [] => []
  | d :: ds => d.py :: pyAll ds
end
mutual
/-- data of None, ints, texts, lists and tuples -/
def D.ok : D → Bool
  | .non => true
  | .int _ => true
  | .str x => PyData.strOk x
  | .lst ds => okAll ds
  | .tup ds => okAll ds
  | _ => false
def okAll : List D → Bool
  | [] => true
  | d :: ds => d.ok && okAll ds
end
mutual
def D.dep : D → Nat
  | .lst ds => depAll ds + 1
  | .tup ds => depAll ds + 1
  | _ => 0
def depAll : List D → Nat
  | [] => 0
  | d :: ds => max d.dep (depAll ds)
end
theorem depAll_le {k : Nat} : ∀ {ds : List D}, (∀ d ∈ ds, d.dep ≤ k) → depAll ds ≤ k
  | [], _ => by simp [depAll]
  | d :: ds, h => by
    have h1 := h d (by simp)
    have h2 := depAll_le (ds := ds) (k := k) fun x hx => h x (by simp [hx])
    simp only [depAll]; omega
theorem okAll_of : ∀ {ds : List D}, (∀ d ∈ ds, d.ok = true) → okAll ds = true
  | [], _ => rfl
  | d :: ds, h => by
    simp only [okAll, h d (by simp), okAll_of (ds := ds) fun x hx => h x (by simp [hx]), Bool.and_self]
mutual
theorem py_dep : ∀ d : D, d.py.depth ≤ d.dep
  | .non => by simp [D.py, PyData.depth]
  | .bl b => by simp [D.py, PyData.depth]
  | .int i => by simp [D.py, PyData.depth]
  | .str x => by simp [D.py, PyData.depth]
  | .byt x => by simp [D.py, PyData.depth]
  | .lst ds => by simp only [D.py, PyData.depth, D.dep]; have := pyAll_dep ds; omega
  | .tup ds => by simp only [D.py, PyData.depth, D.dep]; have := pyAll_dep ds; omega
  | .ins _ _ _ => by simp [D.py, PyData.depth]
  | .dic _ _ => by simp [D.py, PyData.depth]
  | .dit _ _ => by simp [D.py, PyData.depth]
  | .ktp _ => by simp [D.py, PyData.depth]
  | .lam _ _ => by simp [D.py, PyData.depth]
  | .ref _ => by simp [D.py, PyData.depth]
  | .ty _ => by simp [D.py, PyData.depth]
theorem pyAll_dep : ∀ ds : List D, PyData.depthAll (pyAll ds) ≤ depAll ds
  | [] => by simp [pyAll, PyData.depthAll]
  | d :: ds => by
    simp only [pyAll, PyData.depthAll, depAll]
    have := py_dep d; have := pyAll_dep ds; omega
end
mutual
theorem py_lay : ∀ d : D, d.ok = true → d.py.canLay0 = true
  | .non, _ => rfl
  | .bl b, h => by simp [D.ok] at h
  | .int i, _ => rfl
  | .str x, h => by simp only [D.ok] at h; simp only [D.py, PyData.canLay0, h]
  | .byt x, h => by simp [D.ok] at h
  | .lst ds, h => by simp only [D.ok] at h; simp only [D.py, PyData.canLay0, pyAll_lay ds h]
  | .tup ds, h => by simp only [D.ok] at h; simp only [D.py, PyData.canLay0, pyAll_lay ds h]
  | .ins _ _ _, h => by simp [D.ok] at h
  | .dic _ _, h => by simp [D.ok] at h
  | .dit _ _, h => by simp [D.ok] at h
  | .ktp _, h => by simp [D.ok] at h
  | .lam _ _, h => by simp [D.ok] at h
  | .ref _, h => by simp [D.ok] at h
  | .ty _, h => by simp [D.ok] at h
theorem pyAll_lay : ∀ ds : List D, okAll ds = true → PyData.canLayAll0 (pyAll ds) = true
  | [], _ => rfl
  | d :: ds, h => by
    simp only [okAll, Bool.and_eq_true] at h
    simp only [pyAll, PyData.canLayAll0, py_lay d h.1, pyAll_lay ds h.2, Bool.and_self]
end
theorem py_shaped {d : D} (h : d.ok = true) (hd : d.dep ≤ 64) : SeqAt.shaped d.py = true := by
  unfold SeqAt.shaped
  have := py_dep d
  rw [py_lay d h, Bool.true_and]
  exact decide_eq_true (by omega)
mutual
theorem py_eq : ∀ (d e : D), d.ok = true → e.ok = true → (PyData.eqv d.py e.py = true ↔ d = e)
  | .non, e, _, h => by cases e <;> simp_all [D.ok, D.py, PyData.eqv]
  | .int i, e, _, h => by cases e <;> simp_all [D.ok, D.py, PyData.eqv]
  | .str x, e, _, h => by cases e <;> simp_all [D.ok, D.py, PyData.eqv]
  | .lst ds, .lst es, h, h' => by
    simp only [D.ok] at h h'
    simp only [D.py, PyData.eqv, pyAll_eq ds es h h', D.lst.injEq]
  | .tup ds, .tup es, h, h' => by
    simp only [D.ok] at h h'
    simp only [D.py, PyData.eqv, pyAll_eq ds es h h', D.tup.injEq]
  | .lst ds, .non, _, _ => by simp [D.py, PyData.eqv]
  | .lst ds, .int _, _, _ => by simp [D.py, PyData.eqv]
  | .lst ds, .str _, _, _ => by simp [D.py, PyData.eqv]
  | .lst ds, .tup _, _, _ => by simp [D.py, PyData.eqv]
  | .tup ds, .non, _, _ => by simp [D.py, PyData.eqv]
  | .tup ds, .int _, _, _ => by simp [D.py, PyData.eqv]
  | .tup ds, .str _, _, _ => by simp [D.py, PyData.eqv]
  | .tup ds, .lst _, _, _ => by simp [D.py, PyData.eqv]
theorem pyAll_eq : ∀ (ds es : List D), okAll ds = true → okAll es = true → (PyData.eqvAll (pyAll ds) (pyAll es) = true ↔ ds = es)
  | [], [], _, _ => by simp [pyAll, PyData.eqvAll]
  | [], _ :: _, _, _ => by simp [pyAll, PyData.eqvAll]
  | _ :: _, [], _, _ => by simp [pyAll, PyData.eqvAll]
  | d :: ds, e :: es, h, h' => by
    simp only [okAll, Bool.and_eq_true] at h h'
    simp only [pyAll, PyData.eqvAll, Bool.and_eq_true, py_eq d e h.1 h'.1, pyAll_eq ds es h.2 h'.2, List.cons.injEq]
end
mutual
theorem Rp.dp {K : PySem.W.Frag} {S H : Hp} (e : Ex S H) : ∀ (d : D) {v : V}, d.ok = true → Rp K S v d → Dp K H v d.py
  | .non, _, _, h => by cases h; exact .non
  | .int i, _, _, h => by cases h; exact .int i
  | .str x, _, _, h => by cases h; exact .str x
  | .lst ds, _, o, h => by
    simp only [D.ok] at o
    cases h with
    | lst q r => exact .lst (ex_l e q) (RpAll.dp e ds o r)
  | .tup ds, _, o, h => by
    simp only [D.ok] at o
    cases h with
    | tup q r => exact .tup (ex_t e (SqT.of q)) (RpAll.dp e ds o r)
theorem RpAll.dp {K : PySem.W.Frag} {S H : Hp} (e : Ex S H) : ∀ (ds : List D) {vs : List V}, okAll ds = true → RpAll K S vs ds → DpAll K H vs (pyAll ds)
  | [], _, _, h => by cases h; exact .nil
  | d :: ds, _, o, h => by
    simp only [okAll, Bool.and_eq_true] at o
    cases h with
    | cons a b => exact .cons (Rp.dp e d o.1 a) (RpAll.dp e ds o.2 b)
end
theorem ok_ints (l : List Int) : (D.lst (l.map D.int)).ok = true := okAll_of fun d hd => by
  obtain ⟨i, _, rfl⟩ := List.mem_map.mp hd; rfl
theorem dep_ints (l : List Int) : (D.lst (l.map D.int)).dep ≤ 64 := by
  have := depAll_le (ds := l.map D.int) (k := 0) fun d hd => by obtain ⟨i, _, rfl⟩ := List.mem_map.mp hd; simp [D.dep]
  simp only [D.dep]; omega
section
variable {X : Cx} {ρ ρ' ρ1 ρ2 ρ3 : Env} {e a b c tg iter elt : Expr} {es rest ifs : List Expr} {x y z : VD} {pos apos cpos : Pos} {p q : Bool} {st : Stmt} {r body orelse : List Stmt} {k : Kn} {ds ds' : List D} {u u' d d' : D}
theorem ed_eqD (hu : X.A.units + 64 < cLine) (ha : ED X ρ a (.d d) ρ1) (hb : ED X ρ1 b (.d d') ρ2) (o1 : d.ok = true) (o2 : d'.ok = true) (s1 : d.dep ≤ 64) (s2 : d'.dep ≤ 64) (hp : p = true ↔ d = d') (hm : behindInMarks .Eq b = false := by rfl) : ED X ρ (.Compare a [.Eq] [b] pos) (.d (.bl p)) ρ2 :=
  ed_of (pe_cmpR (op_eqD hu) ha hb hm) fun σ H Q hk => two_ σ H Q _ hk fun fr S ad S1 H1 ad1 v1 v2 A st r1 r2 kk => by
    refine ⟨d.py, d'.py, Rp.dp A.grow.sh d o1 r1.dd, Rp.dp A.grow.sh d' o2 r2.dd, py_shaped o1 s1, py_shaped o2 s2, ?_⟩
    have e1 : PyData.eqv d.py d'.py = p := by rw [Bool.eq_iff_iff, py_eq d d' o1 o2, hp]
    rw [e1]
    exact kk S1 H1 ad1 _ (.refl _ _) A (.d (.bl _))
theorem td_eqD (hu : X.A.units + 64 < cLine) (ha : ED X ρ a (.d d) ρ1) (hb : ED X ρ1 b (.d d') ρ2) (o1 : d.ok = true) (o2 : d'.ok = true) (s1 : d.dep ≤ 64) (s2 : d'.dep ≤ 64) (hp : p = true ↔ d = d') (hm : behindInMarks .Eq b = false := by rfl) : TD X ρ (.Compare a [.Eq] [b] pos) p ρ2 :=
  td_of (pt_cmpR (op_eqD hu) ha hb hm) fun σ H Q hk => td_two σ H Q _ hk fun fr S ad S1 H1 ad1 v1 v2 A st r1 r2 Q' kk => by
    refine ⟨d.py, d'.py, Rp.dp A.grow.sh d o1 r1.dd, Rp.dp A.grow.sh d' o2 r2.dd, py_shaped o1 s1, py_shaped o2 s2, ?_⟩
    have e1 : PyData.eqv d.py d'.py = p := by rw [Bool.eq_iff_iff, py_eq d d' o1 o2, hp]
    rw [e1]
    exact kk S1 H1 ad1 (.refl _ _) A
theorem td_neD (hu : X.A.units + 64 < cLine) (ha : ED X ρ a (.d d) ρ1) (hb : ED X ρ1 b (.d d') ρ2) (o1 : d.ok = true) (o2 : d'.ok = true) (s1 : d.dep ≤ 64) (s2 : d'.dep ≤ 64) (hp : p = true ↔ d ≠ d') (hm : behindInMarks .NotEq b = false := by rfl) : TD X ρ (.Compare a [.NotEq] [b] pos) p ρ2 :=
  td_of (pt_cmpR (op_neD hu) ha hb hm) fun σ H Q hk => td_two σ H Q _ hk fun fr S ad S1 H1 ad1 v1 v2 A st r1 r2 Q' kk => by
    refine ⟨d.py, d'.py, Rp.dp A.grow.sh d o1 r1.dd, Rp.dp A.grow.sh d' o2 r2.dd, py_shaped o1 s1, py_shaped o2 s2, ?_⟩
    have e1 : (!PyData.eqv d.py d'.py) = p := by
      rw [Bool.eq_iff_iff, hp, Bool.not_eq_true', ← Bool.not_eq_true, py_eq d d' o1 o2]
    rw [e1]
    exact kk S1 H1 ad1 (.refl _ _) A
/-- l.index(i) -/
theorem pyAll_ints (l : List Int) : pyAll (l.map D.int) = l.map PyData.int := by
  induction l with
  | nil => rfl
  | cons i l ih => rw [List.map_cons, pyAll, ih]; rfl
theorem ed_index {l : List Int} {i : Int} (hu : X.A.units + 65 < cLine) (ha : ED X ρ a (.d (.lst (l.map D.int))) ρ1) (hb : ED X ρ1 b (.d (.int i)) ρ2) (hi : i ∈ l)
    (hbase : attributeBase a "index" X.env (eval a X.env) = eval a X.env)
    (hfew : ((backTo cpos (starEach [b] X.env)).all (fun x => !x.1) && (backToKw cpos (keywordEach [] X.env)).all (fun x => x.1.isSome)
      && decide ([b].length + ([] : List Keyword).length + (if ([] : List Keyword).isEmpty then 0 else 1) < 30)) = true)
    (hline : (apos.endLine == cpos.line) = true) (hs : starEach [b] X.env = (false, eval b X.env) :: starEach [] X.env) (hplain : (backTo cpos (starEach [] X.env)).any (·.1) = false) :
    ED X ρ (.Call (.Attribute a "index" apos) [b] [] cpos) (.d (.int (l.idxOf i))) ρ2 :=
  ed_of (pe_bm PySem.F.plainAttrs_list PySem.F.slot_list_index PySem.F.type_list_index (mt_indexD hu) ha (pa_cons hb pa_nil hs) hbase hfew hline hs hplain) fun σ H Q ⟨fr, S, ad, A, kk⟩ => ⟨fr, S, ad, A, fun S1 H1 ad1 v1 st1 A1 r1 => by
    obtain ⟨p, vs, e1, e2, e3⟩ := r1.dd.lst_inv
    refine ⟨by rw [e1]; exact .inl ⟨rfl, _, ex_l A1.grow.sh e2⟩, fr, S1, ad1, A1, fun S2 H2 ad2 v2 st2 A2 r2 => ?_⟩
    have o := ok_ints l
    have hd := Rp.dp (K := X.K) (A2.grow.sh) (.lst (l.map D.int)) o ((r1.mono st2).dd)
    have hlt : l.idxOf i < l.length := List.idxOf_lt_length_iff.mpr hi
    have hsh := py_shaped (d := .lst (l.map D.int)) o (dep_ints l)
    simp only [D.py, pyAll_ints] at hd hsh
    rw [e1] at hd ⊢
    refine ⟨p, v2, .int i, _, l.idxOf i, .int i, rfl, rfl, hd, by rw [r2.di]; exact .int i, hsh, rfl, ?_, by simp [PyData.eqv], fun m z' hm hz => ?_, kk S2 H2 ad2 _ (st1.trans st2) A2 (.d (.int _))⟩
    · rw [List.getElem?_map, List.getElem?_eq_getElem hlt, List.getElem_idxOf]; rfl
    · rw [List.getElem?_map, List.getElem?_eq_getElem (by omega)] at hz
      cases hz
      simp only [PyData.eqv, beq_eq_false_iff_ne, ne_eq]
      exact fun h => by
        have hn := List.not_of_lt_findIdx (p := (· == i)) (xs := l) (i := m) hm
        rw [beq_eq_false_iff_ne] at hn; exact hn h⟩
end
end DL

namespace DL
open PySem PySem.Spec PyProof.Rows L2
/-! ### sorted(set(l)), l a list of ints (turned from the library's rule for tuples) -/
section
variable {P : Program} {w : World} {A : Around} {E : Value → Shared → Prop} {s : Shared}
end
section
variable {X : Cx} {ρ ρ' ρ1 ρ2 ρ3 : Env} {e a b c tg iter elt : Expr} {pos p1 p2 p3 : Pos}
end
end DL

namespace DL
open PySem PySem.Spec PyProof.Rows L2
section
variable {X : Cx} {ρ ρ' ρ1 ρ2 ρ3 : Env} {e a b c tg iter elt : Expr} {r : List Stmt} {k : Kn} {pos p1 p2 pp : Pos}
/-- name, name = e -/
theorem sds_asg2 (i j : Nat) {n m : Str} {kk : Nat} {d1 d2 : D} (he : ED X ρ e (.d (.tup [d1, d2])) ρ1) (h : SDs X ((ρ1.put i (.d d1)).put j (.d d2)) r k) (hN : X.N.Nodup) (hc : X.calm = true) (hi : X.N[i]? = some n) (hj : X.N[j]? = some m)
    (hx : Loc X.env.scope n) (hf : X.fn n = true ∨ X.env.scope.names.lookup n = some .local) (hy : Loc X.env.scope m) (hf2 : X.fn m = true ∨ X.env.scope.names.lookup m = some .local)
    (hs : swapsWithSole [.Tuple [.Name n p1, .Name m p2] kk pp] e pos.line X.env = pure false) (hw : swappedStores [.Tuple [.Name n p1, .Name m p2] kk pp] e X.env = pure none) :
    SDs X ρ (.Assign [.Tuple [.Name n p1, .Name m p2] kk pp] e pos :: r) k :=
  sds_asg he (gd_tup (xs := []) (ds := [d1, d2]) hc (gds_cons (gd_name i hN hi hx hf) (gds_cons (gd_name j hN hj hy hf2) gds_nil rfl) rfl) rfl rfl rfl) h hs hw rfl
end
end DL

namespace DL
open PySem PySem.Spec PyProof.Rows L2
section
variable {P : Program} {w : World} {K : PySem.W.Frag} {mg : Str → Option Value} {base : Heap} {x qual : Str} {params : Arguments} {body : List Stmt} {scope : Scope} {f : Addr} {fd : FuncData} {N ps : List Str} {j : Nat} {R : FSpec}
end
end DL

namespace DL
open PySem PySem.Spec PyProof.Rows L2
/-! ### mirrors: what a def computes, as a partial function of data -/
theorem bnd {α β : Type} {x : Option α} {f : α → Option β} {r : β} (h : x.bind f = some r) : ∃ t, x = some t ∧ f t = some r := Option.bind_eq_some_iff.mp h
theorem ct {α : Type} {a b c : α} (h : cond true a b = c) : a = c := h
theorem cf {α : Type} {a b c : α} (h : cond false a b = c) : b = c := h
theorem sm {α : Type} {a b : α} (h : some a = some b) : a = b := Option.some.inj h
/-- how a block ends -/
inductive Fl (σ τ : Type) where
  | nx (s : σ) | bk (s : σ) | rt (t : τ)
def forS {σ : Type} (f : D → σ → Option σ) : List D → σ → Option σ
  | [], s => some s
  | d :: ds, s => (f d s).bind fun s' => forS f ds s'
def forF {σ τ : Type} (f : D → σ → Option (Fl σ τ)) : List D → σ → Option (Fl σ τ)
  | [], s => some (.nx s)
  | d :: ds, s => (f d s).bind fun
    | .nx s' => forF f ds s'
    | .bk s' => some (.nx s')
    | .rt t => some (.rt t)
def whileS {σ : Type} (c : σ → Option Bool) (f : σ → Option σ) : Nat → σ → Option σ
  | 0, _ => none
  | n + 1, s => (c s).bind fun p => cond p ((f s).bind fun s' => whileS c f n s') (some s)
def lcM (f : D → Option (Option D)) : List D → Option (List D)
  | [] => some []
  | d :: ds => (f d).bind fun o => (lcM f ds).bind fun r => some (o.toList ++ r)
/-- so often at most goes a while -/
def fuel : Nat := 1000000
/-! operations -/
def dSub : D → D → Option D
  | .int i, .int j => some (.int (i - j))
  | _, _ => none
def dMul : D → D → Option D
  | .int i, .int j => if (-(2 ^ 64) < i ∧ i < 2 ^ 64) ∨ (-(2 ^ 64) < j ∧ j < 2 ^ 64) then some (.int (i * j)) else none
  | _, _ => none
def dMod : D → D → Option D
  | .int i, .int j => if 0 < j then some (.int (i % j)) else none
  | _, _ => none
def dDiv : D → D → Option D
  | .int i, .int j => if 0 < j ∧ j < 1073741824 then some (.int (i / j)) else none
  | _, _ => none
def dPow : D → D → Option D
  | .int i, .int j => if 0 ≤ j ∧ j ≤ 1000000 ∧ i.natAbs < 2 ^ 64 then some (.int (i ^ j.toNat)) else none
  | _, _ => none
def dNeg : D → Option D
  | .int i => some (.int (-i))
  | _ => none
def dIx : D → D → Option D
  | .lst ds, .int i => atI ds i
  | .tup ds, .int i => atI ds i
  | _, _ => none
def dB : D → Option Bool
  | .bl b => some b
  | _ => none
def dInt2 (f : Int → Int → Bool) : D → D → Option Bool
  | .int i, .int j => some (f i j)
  | _, _ => none
def dLt : D → D → Option Bool := dInt2 fun i j => decide (i < j)
def dLe : D → D → Option Bool := dInt2 fun i j => decide (i ≤ j)
def dGt : D → D → Option Bool := dInt2 fun i j => decide (j < i)
def dGe : D → D → Option Bool := dInt2 fun i j => decide (j ≤ i)
open Classical in
noncomputable def dEq (a b : D) : Option Bool :=
  if scD a b = true then some (eqSc a b)
  else if a.ok = true ∧ b.ok = true ∧ a.dep ≤ 64 ∧ b.dep ≤ 64 then some (decide (a = b)) else none
noncomputable def dNe (a b : D) : Option Bool := (dEq a b).bind fun p => some (!p)
def decInt : D → Option Int
  | .int i => some i
  | _ => none
def decInts : List D → Option (List Int)
  | [] => some []
  | d :: ds => (decInt d).bind fun i => (decInts ds).bind fun r => some (i :: r)
theorem decInts_ok : ∀ {ds : List D} {l : List Int}, decInts ds = some l → ds = l.map D.int
  | [], l, h => by cases h; rfl
  | d :: ds, l, h => by
    obtain ⟨i, h1, h⟩ := bnd h
    obtain ⟨r, h2, h⟩ := bnd h
    cases h
    have e1 : d = .int i := by cases d <;> simp [decInt] at h1; subst h1; rfl
    rw [e1, decInts_ok h2]; rfl
def dLen (u : D) : Option D := (u.seq?).bind fun ds => some (.int ds.length)
def dMax : D → D → Option D
  | .int i, .int j => some (.int (max i j))
  | _, _ => none
def dMin : D → D → Option D
  | .int i, .int j => some (.int (min i j))
  | _, _ => none
def dInt : D → Option D
  | .int i => some (.int i)
  | .bl b => some (.int (if b then 1 else 0))
  | _ => none
def dTup (ds : List D) : Option D := if ds.length ≤ sizeLine then some (.tup ds) else none
def dRange1 : D → Option (List D)
  | .int j => if -(2 ^ 62) ≤ j ∧ j < 2 ^ 62 then some (rngD 0 j.toNat) else none
  | _ => none
def dSeq (u : D) : Option (List D) := u.seq?
def dEnum (u : D) : Option (List D) := (u.seq?).bind fun ds => some (enumD 0 ds)
def dUn2 : D → Option (D × D)
  | .tup [a, b] => some (a, b)
  | _ => none
def dUn3 : D → Option (D × D × D)
  | .tup [a, b, c] => some (a, b, c)
  | _ => none
theorem dUn2_ok {d a b : D} (h : dUn2 d = some (a, b)) : d = .tup [a, b] := by
  unfold dUn2 at h
  split at h
  · cases h; rfl
  · cases h
def dRev : D → Option D
  | .lst ds => some (.lst ds.reverse)
  | .tup ds => some (.tup ds.reverse)
  | _ => none
/-- a list of ours -/
def lIx (ds : List D) : D → Option D
  | .int i => atI ds i
  | _ => none
def lPut (ds : List D) (i d : D) : Option (List D) := match i with
  | .int i => (ixN ds.length i).bind fun j => some (ds.set j d)
  | _ => none
def lApp (ds : List D) (d : D) : Option (List D) := if ds.length < sizeLine then some (ds ++ [d]) else none
section
variable {X : Cx} {ρ ρ' ρ1 ρ2 ρ3 : Env} {e a b c tg iter elt : Expr} {es rest ifs : List Expr} {x y z : VD} {pos apos cpos pp : Pos} {p q : Bool} {st : Stmt} {r body orelse : List Stmt} {k : Kn} {ds ds' : List D} {u u' d d' w : D} {n : Str}
theorem ed_subM (ha : ED X ρ a (.d d) ρ1) (hb : ED X ρ1 b (.d d') ρ2) (h : dSub d d' = some w) : ED X ρ (.BinOp a .Sub b pos) (.d w) ρ2 := by
  unfold dSub at h
  split at h
  · cases h; exact ed_sub ha hb
  · cases h
theorem ed_mulM (ha : ED X ρ a (.d d) ρ1) (hb : ED X ρ1 b (.d d') ρ2) (h : dMul d d' = some w) : ED X ρ (.BinOp a .Mult b pos) (.d w) ρ2 := by
  unfold dMul at h
  split at h
  · split at h
    · cases h; exact ed_mul ha hb (by assumption)
    · cases h
  · cases h
theorem ed_modM (ha : ED X ρ a (.d d) ρ1) (hb : ED X ρ1 b (.d d') ρ2) (h : dMod d d' = some w) : ED X ρ (.BinOp a .Mod b pos) (.d w) ρ2 := by
  unfold dMod at h
  split at h
  · split at h
    · cases h; exact ed_mod ha hb (by assumption)
    · cases h
  · cases h
theorem ed_divM (ha : ED X ρ a (.d d) ρ1) (hb : ED X ρ1 b (.d d') ρ2) (h : dDiv d d' = some w) : ED X ρ (.BinOp a .FloorDiv b pos) (.d w) ρ2 := by
  unfold dDiv at h
  split at h
  · split at h
    · cases h; exact ed_fdiv ha hb (by assumption)
    · cases h
  · cases h
theorem ed_powM (ha : ED X ρ a (.d d) ρ1) (hb : ED X ρ1 b (.d d') ρ2) (h : dPow d d' = some w) : ED X ρ (.BinOp a .Pow b pos) (.d w) ρ2 := by
  unfold dPow at h
  split at h
  · split at h
    · cases h; exact ed_pow ha hb (by assumption)
    · cases h
  · cases h
theorem ed_ixM (ha : ED X ρ a (.d d) ρ1) (hb : ED X ρ1 b (.d d') ρ2) (h : dIx d d' = some w) (hs : PlainIx b := by intro _ _; rfl) : ED X ρ (.Subscript a b pos) (.d w) ρ2 := by
  unfold dIx at h
  split at h
  · exact ed_ix ha hb rfl h hs
  · exact ed_ix ha hb rfl h hs
  · cases h
theorem ed_ixOM {o : Nat} (ha : ED X ρ a (.loc o) ρ1) (hb : ED X ρ1 b (.d d') ρ2) (ho : ρ2.ow[o]? = some (some (.lst ds))) (h : lIx ds d' = some w) (hs : PlainIx b := by intro _ _; rfl) : ED X ρ (.Subscript a b pos) (.d w) ρ2 := by
  cases d' <;> simp [lIx] at h
  exact ed_ixO ha hb ho h hs
theorem dB_ok (h : dB d = some p) : d = .bl p := by cases d <;> simp [dB] at h; subst h; rfl
theorem td_valM (h : ED X ρ e (.d d) ρ1) (hb : dB d = some p) (he : ∀ whole, isTrue e X.env whole = (do let v ← whole; standAt e.pos; holding [v] (truthy v)) := by intro _; rfl) : TD X ρ e p ρ1 := by
  have := dB_ok hb; subst this; exact td_val h he
theorem ed_valM (h : ED X ρ e (.d d) ρ1) (hb : dB d = some p) : ED X ρ e (.d (.bl p)) ρ1 := by
  have := dB_ok hb; subst this; exact h
section
variable {f : Int → Int → Bool}
theorem dInt2_ok (h : dInt2 f d d' = some p) : ∃ i j, d = .int i ∧ d' = .int j ∧ p = f i j := by
  unfold dInt2 at h
  split at h
  · cases h; exact ⟨_, _, rfl, rfl, rfl⟩
  · cases h
end
theorem td_ltM (ha : ED X ρ a (.d d) ρ1) (hb : ED X ρ1 b (.d d') ρ2) (h : dLt d d' = some p) : TD X ρ (.Compare a [.Lt] [b] pos) p ρ2 := by obtain ⟨i, j, rfl, rfl, rfl⟩ := dInt2_ok h; exact td_lt ha hb
theorem td_leM (ha : ED X ρ a (.d d) ρ1) (hb : ED X ρ1 b (.d d') ρ2) (h : dLe d d' = some p) : TD X ρ (.Compare a [.LtE] [b] pos) p ρ2 := by obtain ⟨i, j, rfl, rfl, rfl⟩ := dInt2_ok h; exact td_le ha hb
theorem td_gtM (ha : ED X ρ a (.d d) ρ1) (hb : ED X ρ1 b (.d d') ρ2) (h : dGt d d' = some p) : TD X ρ (.Compare a [.Gt] [b] pos) p ρ2 := by obtain ⟨i, j, rfl, rfl, rfl⟩ := dInt2_ok h; exact td_gt ha hb
theorem td_geM (ha : ED X ρ a (.d d) ρ1) (hb : ED X ρ1 b (.d d') ρ2) (h : dGe d d' = some p) : TD X ρ (.Compare a [.GtE] [b] pos) p ρ2 := by obtain ⟨i, j, rfl, rfl, rfl⟩ := dInt2_ok h; exact td_ge ha hb
theorem ed_leleM {q : Bool} (ha : ED X ρ a (.d d) ρ) (hb : ED X ρ b (.d d') ρ) (hc : ED X ρ c (.d w) ρ) (h1 : dLe d d' = some p) (h2 : dLe d' w = some q) (hm : lastMarks [.LtE, .LtE] [b, c] = false := by with_unfolding_all rfl) : ED X ρ (.Compare a [.LtE, .LtE] [b, c] pos) (.d (.bl (p && q))) ρ := by
  obtain ⟨i, j, rfl, rfl, rfl⟩ := dInt2_ok h1
  obtain ⟨j', k, e, rfl, rfl⟩ := dInt2_ok h2
  cases e
  exact ed_lele ha hb hc hm
open Classical in
theorem dEq_cases (h : dEq d d' = some p) : (scD d d' = true ∧ p = eqSc d d') ∨ (d.ok = true ∧ d'.ok = true ∧ d.dep ≤ 64 ∧ d'.dep ≤ 64 ∧ (p = true ↔ d = d')) := by
  unfold dEq at h
  split at h
  · cases h; exact .inl ⟨by assumption, rfl⟩
  · split at h
    · rename_i hh
      cases h
      exact .inr ⟨hh.1, hh.2.1, hh.2.2.1, hh.2.2.2, decide_eq_true_iff⟩
    · cases h
theorem td_eqM (hu : X.A.units + 64 < cLine) (ha : ED X ρ a (.d d) ρ1) (hb : ED X ρ1 b (.d d') ρ2) (h : dEq d d' = some p) (hm : behindInMarks .Eq b = false := by rfl) : TD X ρ (.Compare a [.Eq] [b] pos) p ρ2 := by
  rcases dEq_cases h with ⟨h1, rfl⟩ | ⟨o1, o2, s1, s2, hp⟩
  · exact td_eqS ha hb h1
  · exact td_eqD hu ha hb o1 o2 s1 s2 hp hm
theorem ed_eqM (hu : X.A.units + 64 < cLine) (ha : ED X ρ a (.d d) ρ1) (hb : ED X ρ1 b (.d d') ρ2) (h : dEq d d' = some p) (hm : behindInMarks .Eq b = false := by rfl) : ED X ρ (.Compare a [.Eq] [b] pos) (.d (.bl p)) ρ2 := by
  rcases dEq_cases h with ⟨h1, rfl⟩ | ⟨o1, o2, s1, s2, hp⟩
  · exact ed_eqS ha hb h1
  · exact ed_eqD hu ha hb o1 o2 s1 s2 hp hm
theorem td_neM (hu : X.A.units + 64 < cLine) (ha : ED X ρ a (.d d) ρ1) (hb : ED X ρ1 b (.d d') ρ2) (h : dNe d d' = some p) (hm : behindInMarks .NotEq b = false := by rfl) : TD X ρ (.Compare a [.NotEq] [b] pos) p ρ2 := by
  obtain ⟨q, h', e⟩ := bnd h
  cases e
  clear h
  rcases dEq_cases h' with ⟨h1, rfl⟩ | ⟨o1, o2, s1, s2, hp⟩
  · exact td_neS ha hb h1
  · exact td_neD hu ha hb o1 o2 s1 s2 (by rw [ne_eq, ← hp]; cases q <;> simp) hm
theorem td_isNM {j : Nat} {pos' : Pos} (ha : ED X ρ a (.d d) ρ1) : TD X ρ (.Compare a [.Is] [.Constant .none j pos'] pos) d.isNone ρ1 := td_isN ha
/-! and, or -/
theorem tw_andM {B : Option Bool} (ha : TD X ρ a p ρ) (h : cond p B (some false) = some q) (hb : B = some q → TW X ρ (.BoolOp .And (b :: rest) pos) q ρ) : TW X ρ (.BoolOp .And (a :: b :: rest) pos) q ρ := by
  cases p with
  | true => have := tw_and ha (fun _ => hb (ct h)); simpa using this
  | false =>
    have e := sm (cf h)
    subst e
    have := tw_and (q := false) (b := b) (rest := rest) (pos := pos) ha (fun z => nomatch z)
    simpa using this
theorem tw_orM {B : Option Bool} (ha : TD X ρ a p ρ) (h : cond p (some true) B = some q) (hb : B = some q → TW X ρ (.BoolOp .Or (b :: rest) pos) q ρ) : TW X ρ (.BoolOp .Or (a :: b :: rest) pos) q ρ := by
  cases p with
  | false => have := tw_or ha (fun _ => hb (cf h)); simpa using this
  | true =>
    have e := sm (ct h)
    subst e
    have := tw_or (q := true) (b := b) (rest := rest) (pos := pos) ha (fun z => nomatch z)
    simpa using this
theorem ed_andM {B : Option Bool} (ha : ED X ρ a (.d (.bl p)) ρ) (h : cond p B (some false) = some q) (hb : B = some q → ED X ρ (.BoolOp .And (b :: rest) pos) (.d (.bl q)) ρ) : ED X ρ (.BoolOp .And (a :: b :: rest) pos) (.d (.bl q)) ρ := by
  cases p with
  | true => have := ed_and ha (fun _ => hb (ct h)); simpa using this
  | false =>
    have e := sm (cf h)
    subst e
    have := ed_and (q := false) (b := b) (rest := rest) (pos := pos) ha (fun z => nomatch z)
    simpa using this
theorem ed_ifM {A B : Option D} (hc : TD X ρ c p ρ) (h : cond p A B = some w) (ha : A = some w → ED X ρ a (.d w) ρ) (hb : B = some w → ED X ρ b (.d w) ρ) : ED X ρ (.IfExp c a b pos) (.d w) ρ := by
  cases p with
  | true => exact ed_ifT hc (ha (ct h))
  | false => exact ed_ifF hc (hb (cf h))
/-! built-ins -/
theorem cb_lenM (h : dLen u = some w) : CBR X (.builtin "len") ρ [.d u] (.d w) ρ := by
  obtain ⟨ds, h1, h⟩ := bnd h
  cases h; exact cb_len h1
theorem cb_maxM (hc : X.calm = true) (h : dMax d d' = some w) : CBR X (.builtin "max") ρ [.d d, .d d'] (.d w) ρ := by
  unfold dMax at h; split at h
  · cases h; exact cb_max2 hc
  · cases h
theorem cb_intM (h : dInt d = some w) : CBR X (.type "int") ρ [.d d] (.d w) ρ := by
  unfold dInt at h; split at h
  · cases h; exact cb_intI
  · cases h; exact cb_intB
  · cases h
/-! what is walked -/
theorem it_seqM (h : ED X ρ e (.d u) ρ1) (hu : dSeq u = some ds) : ItD X ρ tg e ds ρ1 := by
  unfold dSeq at hu
  cases u <;> simp [D.seq?] at hu
  · subst hu; exact it_list h
  · subst hu; exact it_tup h
  · subst hu; exact it_ktp h
theorem it_range1M (ha : ED X ρ a (.d d) ρ1) (h : dRange1 d = some ds) (hg : Gl X "range") (hm : X.mg "range" = none) (hs : starEach [a] X.env = [(false, eval a X.env)] := by rfl) : ItD X ρ tg (.Call (.Name "range" pp) [a] [] pos) ds ρ1 := by
  unfold dRange1 at h; split at h
  · split at h
    · cases h; exact it_range1 ha hg hm (by assumption) hs
    · cases h
  · cases h
theorem it_enumM {tpos : Pos} {elts : List Expr} {kk : Nat} (ha : ED X ρ e (.d u) ρ1) (h : dEnum u = some ds) (hg : Gl X "enumerate") (hm : X.mg "enumerate" = none) (hs : starEach [e] X.env = [(false, eval e X.env)] := by rfl) :
    ItD X ρ (.Tuple elts kk tpos) (.Call (.Name "enumerate" pp) [e] [] pos) ds ρ1 := by
  obtain ⟨ds, h1, h⟩ := bnd h
  cases h; exact it_enum ha h1 hg hm hs
theorem ed_revM {k1 : Nat} {q1 q2 q3 : Pos} (ha : ED X ρ a (.d d) ρ1) (h : dRev d = some w) : ED X ρ (.Subscript a (.Slice none none (some (.UnaryOp .USub (.Constant (.int 1) k1 q1) q2)) q3) pos) (.d w) ρ1 := by
  unfold dRev at h; split at h
  · cases h; exact ed_revL ha
  · cases h; exact ed_revT ha
  · cases h
/-! lists of ours -/
theorem sds_setIxM {o : Nat} {tpos : Pos} {ds2 : List D} (hv : ED X ρ e (.d d) ρ1) (ho : ED X ρ1 a (.loc o) ρ2) (hi : ED X ρ2 b (.d d') ρ3) (hw : ρ3.ow[o]? = some (some (.lst ds))) (hj : lPut ds d' d = some ds2) (h : SDs X { ρ3 with ow := ρ3.ow.set o (some (.lst ds2)) } r k)
    (ha : ∀ v, assign (.Subscript a b tpos) X.env v = (do
      let ov ← holding [v] (eval a X.env)
      let iv ← holding [v, ov] (eval b X.env)
      standAt tpos
      holding [v, ov, iv] (setItem ov iv v)
      release [v, ov, iv] []) := by intro _; rfl)
    (hs : swapsWithSole [.Subscript a b tpos] e pos.line X.env = pure false := by rfl) (hsw : swappedStores [.Subscript a b tpos] e X.env = pure none := by rfl) (h1 : (assignEach [.Subscript a b tpos] X.env).map (·.2) = [assign (.Subscript a b tpos) X.env] := by rfl) :
    SDs X ρ (.Assign [.Subscript a b tpos] e pos :: r) k := by
  cases d' <;> simp only [lPut] at hj <;> try cases hj
  obtain ⟨j, h2, hj⟩ := bnd hj
  cases hj
  exact sds_setIx hv ho hi hw h2 h ha hs hsw h1
/-! if, for, while -/
theorem sds_ifJ (J : Env → Prop) (hc : TD X ρ c p ρ1) (ha : p = true → SDs X ρ1 body { k with nx := J }) (hb : p = false → SDs X ρ1 orelse { k with nx := J }) (hj : ∀ ρ', J ρ' → SDs X ρ' r k) : SDs X ρ (.If c body orelse pos :: r) k :=
  sds_if hc (fun h => (ha h).imp hj (fun _ _ z => z)) (fun h => (hb h).imp hj (fun _ _ z => z))
theorem forS_drop {σ : Type} {f : D → σ → Option σ} {ds : List D} {s s1 : σ} {i : Nat} {d : D} (hd : ds[i]? = some d) (h : forS f (ds.drop i) s = some s1) : ∃ s', f d s = some s' ∧ forS f (ds.drop (i + 1)) s' = some s1 := by
  obtain ⟨hlt, he⟩ := List.getElem?_eq_some_iff.mp hd
  rw [List.drop_eq_getElem_cons hlt, he] at h
  exact bnd h
theorem sds_forS {σ : Type} {vs : List Nat} (E : σ → Env → Prop) (f : D → σ → Option σ) {s0 s1 : σ} (hi : ItD X ρ tg iter ds ρ1) (hf : forS f ds s0 = some s1) (h0 : E s0 ρ1)
    (hs : ∀ d s s' ρ, E s ρ → f d s = some s' → ∃ ρ', GD X vs ρ tg (.d d) ρ' ∧ SDs X ρ' body { nx := E s', ct := E s', bk := fun _ => False, rt := k.rt })
    (hd : ∀ ρ, E s1 ρ → SDs X ρ r k) (hp : PassesOwn (model X.prog X.w) X.A X.env X.xe) (hc : X.calm = true) (hfs : ∀ x, foldedSetIterable iter X.env x = pure x) : SDs X ρ (.For tg iter body [] pos :: r) k := by
  refine sds_for (vs := vs) hi (fun i ρ => ∃ s, E s ρ ∧ forS f (ds.drop i) s = some s1) ⟨s0, h0, hf⟩ ?_ ?_ hp hc hfs
  · rintro i d ρ hd ⟨s, hE, hF⟩
    obtain ⟨s', h1, h2⟩ := forS_drop hd hF
    obtain ⟨ρ', hg, hb⟩ := hs d s s' ρ hE h1
    exact ⟨ρ', hg, hb.imp (fun ρ h => ⟨s', h, h2⟩) (fun _ _ z => z) (fun _ z => z.elim) (fun ρ h => ⟨s', h, h2⟩)⟩
  · rintro ρ ⟨s, hE, hF⟩
    rw [List.drop_length] at hF
    have e := sm hF
    subst e
    exact hd ρ hE
def knF {σ τ : Type} (E : σ → Env → Prop) (RT : τ → D → List (Option OD) → Prop) (fl : Fl σ τ) : Kn where
  nx := fun ρ => ∃ s, fl = .nx s ∧ E s ρ
  ct := fun ρ => ∃ s, fl = .nx s ∧ E s ρ
  bk := fun ρ => ∃ s, fl = .bk s ∧ E s ρ
  rt := fun d ow => ∃ t, fl = .rt t ∧ RT t d ow
theorem forF_drop {σ τ : Type} {f : D → σ → Option (Fl σ τ)} {ds : List D} {s : σ} {fl : Fl σ τ} {i : Nat} {d : D} (hd : ds[i]? = some d) (h : forF f (ds.drop i) s = some fl) : ∃ fl1, f d s = some fl1 ∧ (match fl1 with
    | .nx s' => forF f (ds.drop (i + 1)) s'
    | .bk s' => some (.nx s')
    | .rt t => some (.rt t)) = some fl := by
  obtain ⟨hlt, he⟩ := List.getElem?_eq_some_iff.mp hd
  rw [List.drop_eq_getElem_cons hlt, he] at h
  exact bnd h
theorem sds_forF {σ τ : Type} {vs : List Nat} (E : σ → Env → Prop) (RT : τ → D → List (Option OD) → Prop) (f : D → σ → Option (Fl σ τ)) {s0 : σ} {fl : Fl σ τ} (hi : ItD X ρ tg iter ds ρ1) (hf : forF f ds s0 = some fl) (h0 : E s0 ρ1)
    (hs : ∀ d s fl ρ, E s ρ → f d s = some fl → ∃ ρ', GD X vs ρ tg (.d d) ρ' ∧ SDs X ρ' body (knF E RT fl))
    (hd : ∀ s ρ, fl = .nx s → E s ρ → SDs X ρ r k) (hr : ∀ t d ow, fl = .rt t → RT t d ow → k.rt d ow) (hp : PassesOwn (model X.prog X.w) X.A X.env X.xe) (hc : X.calm = true) (hfs : ∀ x, foldedSetIterable iter X.env x = pure x) : SDs X ρ (.For tg iter body [] pos :: r) k := by
  refine sds_for (vs := vs) hi (fun i ρ => ∃ s, E s ρ ∧ forF f (ds.drop i) s = some fl) ⟨s0, h0, hf⟩ ?_ ?_ hp hc hfs
  · rintro i d ρ hd1 ⟨s, hE, hF⟩
    obtain ⟨fl1, h1, h2⟩ := forF_drop hd1 hF
    obtain ⟨ρ', hg, hb⟩ := hs d s fl1 ρ hE h1
    refine ⟨ρ', hg, hb.imp ?_ ?_ ?_ ?_⟩
    · rintro ρ ⟨s', rfl, h⟩; exact ⟨s', h, h2⟩
    · rintro d ow ⟨t, rfl, h⟩; exact hr t d ow (sm h2).symm h
    · rintro ρ ⟨s', rfl, h⟩; exact hd s' ρ (sm h2).symm h
    · rintro ρ ⟨s', rfl, h⟩; exact ⟨s', h, h2⟩
  · rintro ρ ⟨s, hE, hF⟩
    rw [List.drop_length] at hF
    exact hd s ρ (sm hF).symm hE
/-! comprehensions -/
theorem lcM_zip {f : D → Option (Option D)} : ∀ {ds out : List D}, lcM f ds = some out → ∃ o : D → Option D, (∀ d ∈ ds, f d = some (o d)) ∧ out = ds.filterMap o := by
  intro ds out h
  refine ⟨fun d => (f d).getD none, ?_⟩
  induction ds generalizing out with
  | nil => cases h; exact ⟨by simp, rfl⟩
  | cons d ds ih =>
    obtain ⟨o, h1, h⟩ := bnd h
    obtain ⟨r, h2, h⟩ := bnd h
    cases h
    obtain ⟨i1, i2⟩ := ih h2
    refine ⟨fun x hx => ?_, ?_⟩
    · rcases List.mem_cons.mp hx with rfl | hx
      · simp [h1]
      · exact i1 x hx
    · rw [List.filterMap_cons, h1, i2]
      cases o <;> rfl
theorem ed_lcM {f : D → Option (Option D)} {out : List D} {gv : List Nat} {scope : Scope} {own : List (Str × Nat)} (hi : ItD X ρ tg iter ds ρ1) (hf : lcM f ds = some out)
    (hs : ∀ d o, f d = some o → LcP X scope gv (own.map (·.2)) ρ1 tg elt ifs d o) (hz : ds.length ≤ sizeLine)
    (hgv : ∀ j ∈ gv, j ∈ own.map (·.2)) (ok : BlkOk X.N X.env.scope scope own) (hN : X.N.Nodup) (hc : X.calm = true) (hfs : ∀ x, foldedSetIterable iter X.env x = pure x) :
    ED X ρ (.ListComp elt [⟨tg, iter, ifs, 0⟩] scope pos) (.d (.lst out)) ρ1 := by
  obtain ⟨o, h1, h2⟩ := lcM_zip hf
  subst h2
  exact ed_lcP (xs := ds) (f := id) (gv := gv) (by rw [List.map_id]; exact hi) o (fun a ha => hs a _ (h1 a ha)) hz hgv ok hN hc hfs
theorem sds_lcM (i : Nat) {n : Str} {pos' spos : Pos} {f : D → Option (Option D)} {out : List D} {gv : List Nat} {scope : Scope} {own : List (Str × Nat)} (hi : ItD X ρ tg iter ds ρ1) (hf : lcM f ds = some out)
    (hs : ∀ d o, f d = some o → LcP X scope gv (own.map (·.2)) ρ1 tg elt ifs d o) (hz : ds.length ≤ sizeLine) (h : SDs X (Env.put ρ1 i (.d (.lst out))) r k)
    (hgv : ∀ j ∈ gv, j ∈ own.map (·.2)) (ok : BlkOk X.N X.env.scope scope own) (hN : X.N.Nodup) (hc : X.calm = true)
    (hi' : X.N[i]? = some n) (hyl : X.env.scope.names.lookup n = some .local) (hsw : swapsWith (.ListComp elt [⟨tg, iter, ifs, 0⟩] scope pos) (some (.Name n pos')) spos.line X.env = pure true) (hfs : ∀ x, foldedSetIterable iter X.env x = pure x) :
    SDs X ρ (.Assign [.Name n pos'] (.ListComp elt [⟨tg, iter, ifs, 0⟩] scope pos) spos :: r) k := by
  obtain ⟨o, h1, h2⟩ := lcM_zip hf
  subst h2
  exact sds_lcP i (xs := ds) (f := id) (gv := gv) (by rw [List.map_id]; exact hi) o (fun a ha => hs a _ (h1 a ha)) h hz hgv ok hN hc hi' hyl hsw hfs
end
end DL

namespace DL
open PySem PySem.Spec PyProof.Rows L2
/-! ### less is known -/
def wkL : List (Option VD) → List (Option VD) → Prop
  | [], [] => True
  | a :: as, b :: bs => (b = none ∨ a = b) ∧ wkL as bs
  | _, _ => False
theorem wkL_len : ∀ {as bs : List (Option VD)}, wkL as bs → as.length = bs.length
  | [], [], _ => rfl
  | [], _ :: _, h => h.elim
  | _ :: _, [], h => h.elim
  | a :: as, b :: bs, h => by simp [wkL_len h.2]
theorem wkL_get : ∀ {as bs : List (Option VD)} {i : Nat} {x : VD}, wkL as bs → bs[i]? = some (some x) → as[i]? = some (some x)
  | [], [], _, _, _, e => by simp at e
  | [], _ :: _, _, _, h, _ => h.elim
  | _ :: _, [], _, _, h, _ => h.elim
  | a :: as, b :: bs, 0, x, h, e => by
    simp at e
    rcases h.1 with z | z
    · rw [z] at e; cases e
    · simp [z, e]
  | a :: as, b :: bs, i + 1, x, h, e => by
    have := wkL_get (i := i) h.2 (by simpa using e)
    simpa using this
theorem wkL_refl : ∀ (as : List (Option VD)), wkL as as
  | [] => trivial
  | _ :: as => ⟨.inr rfl, wkL_refl as⟩
structure Wk (ρ ρ0 : Env) : Prop where
  m : ρ.m = ρ0.m
  sl : wkL ρ.sl ρ0.sl
  ow : ∃ ext, ρ.ow = ρ0.ow ++ ext
theorem Wk.refl (ρ : Env) : Wk ρ ρ := ⟨rfl, wkL_refl _, [], by simp⟩
def locV (n : Nat) : VD → Bool
  | .d _ => true
  | .loc j => decide (j < n)
def locS (n : Nat) : List (Option VD) → Bool
  | [] => true
  | none :: r => locS n r
  | some x :: r => locV n x && locS n r
def locX (n : Nat) : List VD → Bool
  | [] => true
  | x :: r => locV n x && locX n r
def locO (n : Nat) : List (Option OD) → Bool
  | [] => true
  | some (.ins _ _ xs) :: r => locX n xs && locO n r
  | _ :: r => locO n r
def LocOk (ρ : Env) : Prop := (locS ρ.ow.length ρ.sl && locO ρ.ow.length ρ.ow && decide (ρ.m ≤ ρ.ow.length)) = true
theorem locS_get {n : Nat} : ∀ {sl : List (Option VD)} {i : Nat} {x : VD}, locS n sl = true → sl[i]? = some (some x) → locV n x = true
  | [], _, _, _, e => by simp at e
  | none :: r, 0, _, _, e => by simp at e
  | none :: r, i + 1, x, h, e => locS_get (sl := r) (i := i) h (by simpa using e)
  | some y :: r, 0, x, h, e => by
    simp at e; subst e
    simp only [locS, Bool.and_eq_true] at h; exact h.1
  | some y :: r, i + 1, x, h, e => by
    simp only [locS, Bool.and_eq_true] at h
    exact locS_get (i := i) h.2 (by simpa using e)
theorem locX_all {n : Nat} : ∀ {xs : List VD}, locX n xs = true → ∀ x ∈ xs, locV n x = true
  | [], _, _, h => by cases h
  | y :: r, h, x, hx => by
    simp only [locX, Bool.and_eq_true] at h
    rcases List.mem_cons.mp hx with rfl | hx
    · exact h.1
    · exact locX_all h.2 x hx
theorem locO_get {n : Nat} : ∀ {ow : List (Option OD)} {i : Nat} {C : Addr} {ns : List Str} {xs : List VD}, locO n ow = true → ow[i]? = some (some (.ins C ns xs)) → locX n xs = true
  | [], _, _, _, _, _, e => by simp at e
  | o :: r, i + 1, C, ns, xs, h, e => by
    refine locO_get (ow := r) (i := i) (C := C) (ns := ns) ?_ (by simpa using e)
    match o, h with
    | none, h => exact h
    | some (.lst _), h => exact h
    | some (.dic _ _), h => exact h
    | some (.dit _ _), h => exact h
    | some (.tb _ _), h => exact h
    | some (.ins _ _ _), h => simp only [locO, Bool.and_eq_true] at h; exact h.2
  | o :: r, 0, C, ns, xs, h, e => by
    simp at e; subst e
    simp only [locO, Bool.and_eq_true] at h; exact h.1
section
variable {K : PySem.W.Frag} {fr : Fr} {ρ ρ0 : Env} {σ : L2.St} {S H : Hp} {ad : List Addr}
theorem Rv.cut {n : Nat} {v : V} {x : VD} (h : Rv K S ad v x) (hx : locV n x = true) : Rv K S (ad.take n) v x := by
  cases h with
  | d h => exact .d h
  | loc e =>
    simp only [locV, decide_eq_true_eq] at hx
    exact .loc (by rw [List.getElem?_take_of_lt hx]; exact e)
theorem RvAll.cut {n : Nat} : ∀ {vs : List V} {xs : List VD}, RvAll K S ad vs xs → (∀ x ∈ xs, locV n x = true) → RvAll K S (ad.take n) vs xs
  | _, _, .nil, _ => .nil
  | _, _, .cons a b, h => .cons (a.cut (h _ (by simp))) (RvAll.cut b fun x hx => h x (by simp [hx]))
theorem Rel.wk (R : Rel K fr ρ σ S H ad) (w : Wk ρ ρ0) (hl : LocOk ρ0) : Rel K fr ρ0 σ S H (ad.take ρ0.ow.length) := by
  obtain ⟨ext, he⟩ := w.ow
  simp only [LocOk, Bool.and_eq_true, decide_eq_true_eq] at hl
  obtain ⟨⟨l1, l2⟩, l3⟩ := hl
  have hal : ad.length = ρ0.ow.length + ext.length := by rw [R.al, he, List.length_append]
  have hget : ∀ {n : Nat} {o : OD}, ρ0.ow[n]? = some (some o) → ρ.ow[n]? = some (some o) ∧ n < ρ0.ow.length := fun {n o} e => by
    have hlt := (List.getElem?_eq_some_iff.mp e).1
    exact ⟨by rw [he, List.getElem?_append_left hlt]; exact e, hlt⟩
  refine ⟨R.grow, fun i x e => ?_, fun n o e => ?_, ?_, ?_, ?_, ?_, fun n hn => ?_, fun l hl' => R.lv l (List.mem_of_mem_take hl')⟩
  · obtain ⟨v, e1, e2⟩ := R.slots i x (wkL_get w.sl e)
    exact ⟨v, e1, e2.cut (locS_get l1 e)⟩
  · obtain ⟨e', hlt⟩ := hget e
    obtain ⟨l, ho, f1, f2, f3, f4, f5⟩ := R.own n o e'
    refine ⟨l, ho, by rw [List.getElem?_take_of_lt hlt]; exact f1, f2, f3, ?_, fun hm => f5 (by rw [w.m]; exact hm)⟩
    cases ho <;> cases o <;> first | exact f4.elim | exact f4 | skip
    obtain ⟨g0, vs, g1, g2, g3⟩ := f4
    exact ⟨g0, vs, g1, g2, g3.cut fun x hx => locX_all (locO_get l2 e) x hx⟩
  · have := R.mm
    rw [w.m] at this
    refine ⟨this.1, ?_⟩
    rw [List.take_take, Nat.min_eq_left l3]; exact this.2
  · exact R.nd.sublist (List.take_sublist _ _)
  · rw [← wkL_len w.sl]; exact R.len
  · rw [List.length_take, hal]; omega
  · obtain ⟨o, e⟩ := R.ml n (by rw [w.m]; exact hn)
    refine ⟨o, ?_⟩
    have hn' : n < ρ0.ow.length := Nat.lt_of_lt_of_le hn l3
    rw [he, List.getElem?_append_left hn'] at e
    exact e
end
section
variable {X : Cx} {ρ ρ' ρ0 ρ1 ρ2 ρ3 : Env} {e a b c tg iter elt : Expr} {es rest ifs : List Expr} {x y z : VD} {xs ys : List VD} {pos apos cpos pp : Pos} {p q : Bool} {st : Stmt} {r body orelse : List Stmt} {k : Kn} {ds ds' : List D} {u u' d d' w : D} {n m : Str} {R : FSpec}
theorem sds_wk (w : Wk ρ ρ0) (hl : LocOk ρ0) (h : SDs X ρ0 r k) : SDs X ρ r k :=
  sds_of h fun Dn σ H ⟨fr, S, ad, R, kk⟩ => ⟨fr, S, _, R.wk w hl, kk⟩
/-- give a list of ours up -/
theorem sds_fzL (n : Nat) {ds : List D} {d : D} (hn : ρ.ow[n]? = some (some (.lst ds))) (hm : ρ.m ≤ n) (hd : some (D.lst ds) = some d) (h : SDs X (ρ.fz n d) r k) : SDs X ρ r k := by
  have e := sm hd
  subst e
  exact sds_fz n hn (.lst _) hm h
theorem ED.fzL {n : Nat} {ds : List D} {d : D} (he : ED X ρ e (.loc n) ρ1) (hn : ρ1.ow[n]? = some (some (.lst ds))) (hm : ρ1.m ≤ n) (hd : some (D.lst ds) = some d) : ED X ρ e (.d d) (ρ1.fz n d) := by
  have e := sm hd
  subst e
  exact he.fz hn (.lst _) hm
theorem ed_appM {o : Nat} (ha : ED X ρ a (.loc o) ρ1) (hb : ED X ρ1 b (.d d) ρ2) (hw : ρ2.ow[o]? = some (some (.lst ds))) (hw1 : ∃ ds', ρ1.ow[o]? = some (some (.lst ds'))) (hz : lApp ds d = some ds')
    (hbase : attributeBase a "append" X.env (eval a X.env) = eval a X.env)
    (hfew : ((backTo cpos (starEach [b] X.env)).all (fun x => !x.1) && (backToKw cpos (keywordEach [] X.env)).all (fun x => x.1.isSome)
      && decide ([b].length + ([] : List Keyword).length + (if ([] : List Keyword).isEmpty then 0 else 1) < 30)) = true)
    (hline : (apos.endLine == cpos.line) = true) (hs : starEach [b] X.env = (false, eval b X.env) :: starEach [] X.env) (hplain : (backTo cpos (starEach [] X.env)).any (·.1) = false) :
    ED X ρ (.Call (.Attribute a "append" apos) [b] [] cpos) (.d .non) { ρ2 with ow := ρ2.ow.set o (some (.lst ds')) } := by
  unfold lApp at hz
  split at hz
  · cases hz; exact ed_app ha hb hw hw1 (by assumption) hbase hfew hline hs hplain
  · cases hz
/-! isinstance -/
def dIsi (f : Kd → Bool) (d : D) : Option Bool := (d.kd).bind fun k => some (f k)
theorem cb_isiM {T : String} {f : Kd → Bool} (hT : ∀ k : Kd, kitB k.nm T = some (f k)) (h : dIsi f d = some p) : CBR X (.builtin "isinstance") ρ [.d d, .d (.ty T)] (.d (.bl p)) ρ := by
  obtain ⟨k, h1, h⟩ := bnd h
  cases h
  exact cb_isi (kd_tyn h1) (hT k)
def dAddI : D → D → Option D
  | .int i, .int j => some (.int (i + j))
  | _, _ => none
theorem sds_augI' (i : Nat) {n : Str} {pos' : Pos} (hv : ρ.sl[i]? = some (some (.d d))) (he : ED X ρ e (.d d') ρ1) (hw : dAddI d d' = some w) (h : SDs X (ρ1.put i (.d w)) r k) (hN : X.N.Nodup) (hi : X.N[i]? = some n) (hx : Loc X.env.scope n)
    (hf : X.fn n = true ∨ X.env.scope.names.lookup n = some .local) : SDs X ρ (.AugAssign (.Name n pos') .Add e pos :: r) k := by
  unfold dAddI at hw
  split at hw
  · cases hw; exact sds_augI i ip_add hv he h hN hi hx hf
  · cases hw
end
end DL

namespace DL
open PySem PySem.Spec PyProof.Rows L2
theorem wk0 : wkL [] [] := trivial
theorem wkF {a : Option VD} {as bs : List (Option VD)} (h : wkL as bs) : wkL (a :: as) (none :: bs) := ⟨.inl rfl, h⟩
theorem wkK {a : Option VD} {as bs : List (Option VD)} (h : wkL as bs) : wkL (a :: as) (a :: bs) := ⟨.inr rfl, h⟩
/-! ### several slots are stored -/
def Env.puts (ρ : Env) : List (Nat × D) → Env
  | [] => ρ
  | (i, d) :: l => (ρ.put i (.d d)).puts l
theorem wkL_set {x : Option VD} : ∀ {as bs : List (Option VD)} {i : Nat}, wkL as bs → wkL (as.set i x) (bs.set i x)
  | [], [], _, _ => trivial
  | [], _ :: _, _, h => h.elim
  | _ :: _, [], _, h => h.elim
  | a :: as, b :: bs, 0, h => ⟨.inr rfl, h.2⟩
  | a :: as, b :: bs, i + 1, h => ⟨h.1, wkL_set (i := i) h.2⟩
theorem Wk.put {ρ ρ0 : Env} {i : Nat} {x : VD} (w : Wk ρ ρ0) : Wk (ρ.put i x) (ρ0.put i x) := ⟨w.m, wkL_set w.sl, w.ow⟩
theorem Wk.puts : ∀ {l : List (Nat × D)} {ρ ρ0 : Env}, Wk ρ ρ0 → Wk (ρ.puts l) (ρ0.puts l)
  | [], _, _, w => w
  | (i, d) :: l, _, _, w => Wk.puts (l := l) w.put
theorem puts_m : ∀ (l : List (Nat × D)) (ρ : Env), (ρ.puts l).m = ρ.m
  | [], _ => rfl
  | (i, d) :: l, ρ => puts_m l (ρ.put i (.d d))
theorem puts_ow : ∀ (l : List (Nat × D)) (ρ : Env), (ρ.puts l).ow = ρ.ow
  | [], _ => rfl
  | (i, d) :: l, ρ => puts_ow l (ρ.put i (.d d))
theorem puts_app : ∀ (l l' : List (Nat × D)) (ρ : Env), ρ.puts (l ++ l') = (ρ.puts l).puts l'
  | [], _, _ => rfl
  | (i, d) :: l, l', ρ => puts_app l l' (ρ.put i (.d d))
theorem locS_set {n : Nat} {d : D} : ∀ {sl : List (Option VD)} {i : Nat}, locS n sl = true → locS n (sl.set i (some (.d d))) = true
  | [], _, _ => rfl
  | none :: r, 0, h => by simpa [locS, locV] using h
  | some x :: r, 0, h => by simp only [locS, Bool.and_eq_true] at h; simpa [locS, locV] using h.2
  | none :: r, i + 1, h => locS_set (sl := r) (i := i) h
  | some x :: r, i + 1, h => by
    simp only [locS, Bool.and_eq_true] at h
    show locS n (some x :: r.set i (some (.d d))) = true
    simp only [locS, Bool.and_eq_true]
    exact ⟨h.1, locS_set h.2⟩
theorem LocOk.put {ρ : Env} {i : Nat} {d : D} (h : LocOk ρ) : LocOk (ρ.put i (.d d)) := by
  simp only [LocOk, Bool.and_eq_true, decide_eq_true_eq] at h ⊢
  exact ⟨⟨locS_set h.1.1, h.1.2⟩, h.2⟩
theorem LocOk.puts : ∀ {l : List (Nat × D)} {ρ : Env}, LocOk ρ → LocOk (ρ.puts l)
  | [], _, h => h
  | (i, d) :: l, _, h => LocOk.puts (l := l) h.put
/-! ### targets, whatever stood before -/
def TG (X : Cx) (vs : List Nat) (tg : Expr) (d : D) (l : List (Nat × D)) : Prop := ∀ ρ : Env, GD X vs ρ tg (.d d) (ρ.puts l)
def TGL (X : Cx) (vs : List Nat) (tg : List Expr) (ds : List D) (l : List (Nat × D)) : Prop := ∀ ρ : Env, GDs X vs ρ tg (ds.map VD.d) (ρ.puts l)
section
variable {X : Cx} {ρ ρ' ρ0 ρ1 ρ2 ρ3 : Env} {e a b c tg iter elt : Expr} {es rest ifs : List Expr} {x y z : VD} {xs ys : List VD} {pos apos cpos pp : Pos} {p q : Bool} {st : Stmt} {r body orelse : List Stmt} {k : Kn} {ds ds' : List D} {u u' d d' w : D} {n m : Str} {R : FSpec} {vs ws : List Nat} {l l' : List (Nat × D)}
theorem tg_name (i : Nat) (hN : X.N.Nodup) (hi : X.N[i]? = some n) (hx : Loc X.env.scope n) (hf : X.fn n = true ∨ X.env.scope.names.lookup n = some .local) : TG X [i] (.Name n pos) d [(i, d)] := fun ρ => gd_name i hN hi hx hf
theorem tgl_nil : TGL X [] [] [] [] := fun ρ => gds_nil
theorem tgl_cons (h1 : TG X vs e d l) (h2 : TGL X ws es ds l') (hs : (assignEach (e :: es) X.env).map (·.2) = assign e X.env :: (assignEach es X.env).map (·.2) := by rfl) : TGL X (vs ++ ws) (e :: es) (d :: ds) (l ++ l') := fun ρ => by
  rw [puts_app]; exact gds_cons (h1 ρ) (h2 _) hs
theorem tg_tup {kk : Nat} (hc : X.calm = true) (h : TGL X vs es ds l) (hn : (assignEach es X.env).length = ds.length) (hst : (assignEach es X.env).findIdx? (·.1) = none) : TG X vs (.Tuple es kk pos) (.tup ds) l := fun ρ => gd_tup (xs := []) hc (h ρ) rfl hn hst
/-- in a comprehension's block -/
theorem tg_blk (i : Nat) {scope : Scope} (hN : X.N.Nodup) (hi : X.N[i]? = some n) (hx : scope.names.lookup n = some .local) : Blk X scope (fun Y => TG Y [i] (.Name n pos) d [(i, d)]) :=
  fun _ _ _ _ _ ρ => gd_name i hN hi (.inl (lookup_relabel_local hx)) (.inr (lookup_relabel_local hx))
theorem blk_nil {scope : Scope} : Blk X scope (fun Y => TGL Y [] [] [] []) := fun _ _ _ _ _ => tgl_nil
theorem blk_cons {scope : Scope} (h1 : Blk X scope (fun Y => TG Y vs e d l)) (h2 : Blk X scope (fun Y => TGL Y ws es ds l')) (hs : Blk X scope (fun Y => (assignEach (e :: es) Y.env).map (·.2) = assign e Y.env :: (assignEach es Y.env).map (·.2))) : Blk X scope (fun Y => TGL Y (vs ++ ws) (e :: es) (d :: ds) (l ++ l')) :=
  fun a b c d e => tgl_cons (h1 a b c d e) (h2 a b c d e) (hs a b c d e)
theorem blk_tup {kk : Nat} {scope : Scope} (hc : X.calm = true) (h : Blk X scope (fun Y => TGL Y vs es ds l)) (hn : Blk X scope (fun Y => (assignEach es Y.env).length = ds.length)) (hst : Blk X scope (fun Y => (assignEach es Y.env).findIdx? (·.1) = none)) : Blk X scope (fun Y => TG Y vs (.Tuple es kk pos) (.tup ds) l) :=
  fun a b c d e => tg_tup hc (h a b c d e) (hn a b c d e) (hst a b c d e)
/-! ### if -/
theorem sds_ifM {τ : Type} {A B : Option τ} {t : τ} (hc : TD X ρ c p ρ1) (h : cond p A B = some t) (ha : A = some t → SDs X ρ1 body { k with nx := fun ρ' => SDs X ρ' r k }) (hb : B = some t → SDs X ρ1 orelse { k with nx := fun ρ' => SDs X ρ' r k }) : SDs X ρ (.If c body orelse pos :: r) k := by
  cases p with
  | true => exact sds_if hc (fun _ => ha (ct h)) (fun z => nomatch z)
  | false => exact sds_if hc (fun z => nomatch z) (fun _ => hb (cf h))
theorem sds_ifC {σ : Type} (C : σ → Env) {A B : Option σ} {s : σ} (hL : LocOk (C s)) (hc : TD X ρ c p ρ1) (h : cond p A B = some s) (ha : A = some s → SDs X ρ1 body { k with nx := fun ρ => Wk ρ (C s) }) (hb : B = some s → SDs X ρ1 orelse { k with nx := fun ρ => Wk ρ (C s) }) (hj : SDs X (C s) r k) : SDs X ρ (.If c body orelse pos :: r) k := by
  have hj' : ∀ ρ', Wk ρ' (C s) → SDs X ρ' r k := fun ρ' w => sds_wk w hL hj
  cases p with
  | true => exact sds_ifJ (fun ρ => Wk ρ (C s)) hc (fun _ => ha (ct h)) (fun z => nomatch z) hj'
  | false => exact sds_ifJ (fun ρ => Wk ρ (C s)) hc (fun z => nomatch z) (fun _ => hb (cf h)) hj'
/-! ### loops -/
theorem sds_forC {σ : Type} (C : σ → Env) (hL : ∀ s, LocOk (C s)) (f : D → σ → Option σ) {s0 s1 : σ} (hi : ItD X ρ tg iter ds ρ1) (hf : forS f ds s0 = some s1) (h0 : Wk ρ1 (C s0))
    (hs : ∀ d s s', f d s = some s' → ∃ l, TG X vs tg d l ∧ SDs X ((C s).puts l) body { nx := fun ρ => Wk ρ (C s'), ct := fun ρ => Wk ρ (C s'), bk := fun _ => False, rt := k.rt })
    (hd : SDs X (C s1) r k) (hp : PassesOwn (model X.prog X.w) X.A X.env X.xe) (hc : X.calm = true) (hfs : ∀ x, foldedSetIterable iter X.env x = pure x) : SDs X ρ (.For tg iter body [] pos :: r) k :=
  sds_forS (vs := vs) (fun s ρ => Wk ρ (C s)) f hi hf h0 (fun d s s' ρ w h => by
    obtain ⟨l, h1, h2⟩ := hs d s s' h
    exact ⟨_, h1 ρ, sds_wk w.puts (hL s).puts h2⟩) (fun ρ w => sds_wk w (hL _) hd) hp hc hfs
def knC {σ τ : Type} (C : σ → Env) (RT : τ → D → List (Option OD) → Prop) (fl : Fl σ τ) : Kn := knF (fun s ρ => Wk ρ (C s)) RT fl
theorem sds_forCF {σ τ : Type} (C : σ → Env) (hL : ∀ s, LocOk (C s)) (RT : τ → D → List (Option OD) → Prop) (f : D → σ → Option (Fl σ τ)) {s0 : σ} {fl : Fl σ τ} (hi : ItD X ρ tg iter ds ρ1) (hf : forF f ds s0 = some fl) (h0 : Wk ρ1 (C s0))
    (hs : ∀ d s fl, f d s = some fl → ∃ l, TG X vs tg d l ∧ SDs X ((C s).puts l) body (knC C RT fl))
    (hd : ∀ s, fl = .nx s → SDs X (C s) r k) (hr : ∀ t d ow, fl = .rt t → RT t d ow → k.rt d ow) (hp : PassesOwn (model X.prog X.w) X.A X.env X.xe) (hc : X.calm = true) (hfs : ∀ x, foldedSetIterable iter X.env x = pure x) : SDs X ρ (.For tg iter body [] pos :: r) k :=
  sds_forF (vs := vs) (fun s ρ => Wk ρ (C s)) RT f hi hf h0 (fun d s fl ρ w h => by
    obtain ⟨l, h1, h2⟩ := hs d s fl h
    exact ⟨_, h1 ρ, sds_wk w.puts (hL s).puts h2⟩) (fun s ρ e w => sds_wk w (hL _) (hd s e)) hr hp hc hfs
/-- a while whose test is looked at in the weaker state -/
theorem sds_whileW (I : Nat → Env → Prop) {n : Nat} (hn : I n ρ) (hs : ∀ n ρ, I n ρ → ∃ p ρ0, Wk ρ ρ0 ∧ LocOk ρ0 ∧ TD X ρ0 c p ρ0 ∧ (p = true → SDs X ρ0 body { nx := fun ρ' => ∃ m, m < n ∧ I m ρ', ct := fun ρ' => ∃ m, m < n ∧ I m ρ', bk := fun ρ' => SDs X ρ' r k, rt := k.rt }) ∧ (p = false → SDs X ρ0 r k))
    (hp : PassesOwn (model X.prog X.w) X.A X.env X.xe) : SDs X ρ (.While c body [] pos :: r) k := by
  have hc : PT X c (fun σ H Q => ∃ ρ p ρ1, TD X ρ c p ρ1 ∧ tT X.K ρ p ρ1 σ H Q) := ⟨fun pins s σ H Q I ⟨ρ, p, ρ1, h1, hq⟩ => h1.run pins s σ H Q I hq⟩
  refine sds_cons (sd_of (ps_while hp hc (fB_ok body)) fun Dn σ H ⟨fr, S, ad, R, kk⟩ => ?_)
  refine ⟨fun m σ' H' => ∃ ρ S' ad', I m ρ ∧ Rel X.K fr ρ σ' S' H' ad', ⟨n, ρ, S, ad, hn, R⟩, ?_⟩
  rintro m σ' H' ⟨ρ', S', ad', hI, R'⟩
  obtain ⟨p, ρ1, w, lo, h1, h2, h3⟩ := hs m ρ' hI
  refine ⟨ρ1, p, ρ1, h1, fr, S', _, R'.wk w lo, fun S2 H2 ad2 st2 R2 => ?_⟩
  cases p with
  | false => exact iteF (kk.nx ρ1 σ' S2 H2 ad2 (h3 rfl) R2)
  | true =>
    refine iteT ⟨fun σ4 H4 => ∃ m' ρ4 S4 ad4, m' < m ∧ I m' ρ4 ∧ Rel X.K fr ρ4 σ4 S4 H4 ad4, fun σ4 H4 ⟨m', ρ4, S4, ad4, a1, a2, a3⟩ => ⟨m', a1, ρ4, S4, ad4, a2, a3⟩, ρ1, _, h2 rfl, fr, S2, ad2, R2, ?_⟩
    exact ⟨fun ρ4 σ4 S4 H4 ad4 ⟨m', b1, b2⟩ R4 => ⟨m', ρ4, S4, ad4, b1, b2, R4⟩, kk.rt, fun ρ4 σ4 S4 H4 ad4 hn R4 => kk.nx ρ4 σ4 S4 H4 ad4 hn R4, fun ρ4 σ4 S4 H4 ad4 ⟨m', b1, b2⟩ R4 => ⟨m', ρ4, S4, ad4, b1, b2, R4⟩, fun _ _ _ _ _ _ _ z => z.elim⟩
theorem sds_whileC {σ : Type} (C : σ → Env) (hL : ∀ s, LocOk (C s)) (cc : σ → Option Bool) (f : σ → Option σ) {s0 s1 : σ} {n : Nat} (hf : whileS cc f n s0 = some s1) (h0 : Wk ρ (C s0))
    (ht : ∀ s p, cc s = some p → TD X (C s) c p (C s))
    (hs : ∀ s s', f s = some s' → SDs X (C s) body { nx := fun ρ => Wk ρ (C s'), ct := fun ρ => Wk ρ (C s'), bk := fun _ => False, rt := k.rt })
    (hd : SDs X (C s1) r k) (hp : PassesOwn (model X.prog X.w) X.A X.env X.xe) : SDs X ρ (.While c body [] pos :: r) k := by
  refine sds_whileW (fun n ρ => ∃ s, Wk ρ (C s) ∧ whileS cc f n s = some s1) ⟨s0, h0, hf⟩ ?_ hp
  rintro n ρ ⟨s, hE, hF⟩
  cases n with
  | zero => cases hF
  | succ n =>
    obtain ⟨p, h1, h2⟩ := bnd hF
    refine ⟨p, C s, hE, hL s, ht s p h1, ?_, ?_⟩
    · rintro rfl
      obtain ⟨s', h3, h4⟩ := bnd (ct h2)
      exact (hs s s' h3).imp (fun ρ h => ⟨n, Nat.lt_succ_self n, s', h, h4⟩) (fun _ _ z => z) (fun _ z => z.elim) (fun ρ h => ⟨n, Nat.lt_succ_self n, s', h, h4⟩)
    · rintro rfl
      have e := sm (cf h2)
      subst e
      exact hd
/-! ### comprehensions -/
def lcG (f : D → Option (Option D)) (ds : List D) : Option (List D) := if ds.length ≤ sizeLine then lcM f ds else none
theorem lcG_ok {f : D → Option (Option D)} {out : List D} (h : lcG f ds = some out) : ds.length ≤ sizeLine ∧ lcM f ds = some out := by
  unfold lcG at h
  split at h
  · exact ⟨by assumption, h⟩
  · cases h
section
variable {f : D → Option (Option D)} {out : List D} {gv : List Nat} {scope : Scope} {own : List (Str × Nat)} {o : Option D}
theorem lcPC (hg : Blk X scope (fun Y => TG Y gv tg d l)) (ht : Blk X scope (fun Y => TDs Y ((⟨ρ1.m, wpE ρ1.sl vs, ρ1.ow⟩ : Env).puts l) ifs o.isSome ((⟨ρ1.m, wpE ρ1.sl vs, ρ1.ow⟩ : Env).puts l)))
    (he : ∀ e, o = some e → Blk X scope (fun Y => ED Y ((⟨ρ1.m, wpE ρ1.sl vs, ρ1.ow⟩ : Env).puts l) elt (.d e) ((⟨ρ1.m, wpE ρ1.sl vs, ρ1.ow⟩ : Env).puts l))) : LcP X scope gv vs ρ1 tg elt ifs d o :=
  ⟨_, fun a b c d e => hg a b c d e _, puts_m _ _, puts_ow _ _, ht, he⟩
theorem lcP0 (hg : Blk X scope (fun Y => TG Y gv tg d l)) (he : Blk X scope (fun Y => ED Y ((⟨ρ1.m, wpE ρ1.sl vs, ρ1.ow⟩ : Env).puts l) elt (.d w) ((⟨ρ1.m, wpE ρ1.sl vs, ρ1.ow⟩ : Env).puts l))) (h : some (some w) = some o) : LcP X scope gv vs ρ1 tg elt [] d o := by
  have e := sm h
  subst e
  exact lcPC hg (fun _ _ _ _ _ => tds_nil) (fun e h => by cases h; exact he)
theorem lcPif {B : Option (Option D)} (hg : Blk X scope (fun Y => TG Y gv tg d l)) (ht : Blk X scope (fun Y => TD Y ((⟨ρ1.m, wpE ρ1.sl vs, ρ1.ow⟩ : Env).puts l) c p ((⟨ρ1.m, wpE ρ1.sl vs, ρ1.ow⟩ : Env).puts l))) (h : cond p B (some none) = some o)
    (he : B = some o → ∃ e, some (some e) = some o ∧ Blk X scope (fun Y => ED Y ((⟨ρ1.m, wpE ρ1.sl vs, ρ1.ow⟩ : Env).puts l) elt (.d e) ((⟨ρ1.m, wpE ρ1.sl vs, ρ1.ow⟩ : Env).puts l))) : LcP X scope gv vs ρ1 tg elt [c] d o := by
  cases p with
  | true =>
    obtain ⟨e, e1, e2⟩ := he (ct h)
    have e1 := sm e1
    subst e1
    exact lcPC hg (fun a b c d e => tds_one (ht a b c d e)) (fun e h => by cases h; exact e2)
  | false =>
    have e1 := sm (cf h)
    subst e1
    exact lcPC hg (fun a b c d e => tds_one (ht a b c d e)) (fun e h => by cases h)
theorem ed_lcC (hi : ItD X ρ tg iter ds ρ1) (hf : lcG f ds = some out)
    (hs : ∀ d o, f d = some o → LcP X scope gv (own.map (·.2)) ρ1 tg elt ifs d o)
    (hgv : ∀ j ∈ gv, j ∈ own.map (·.2)) (ok : BlkOk X.N X.env.scope scope own) (hN : X.N.Nodup) (hc : X.calm = true) (hfs : ∀ x, foldedSetIterable iter X.env x = pure x) :
    ED X ρ (.ListComp elt [⟨tg, iter, ifs, 0⟩] scope pos) (.d (.lst out)) ρ1 := ed_lcM hi (lcG_ok hf).2 hs (lcG_ok hf).1 hgv ok hN hc hfs
theorem sds_lcC (i : Nat) {pos' spos : Pos} (hi : ItD X ρ tg iter ds ρ1) (hf : lcG f ds = some out)
    (hs : ∀ d o, f d = some o → LcP X scope gv (own.map (·.2)) ρ1 tg elt ifs d o) (h : SDs X (Env.put ρ1 i (.d (.lst out))) r k)
    (hgv : ∀ j ∈ gv, j ∈ own.map (·.2)) (ok : BlkOk X.N X.env.scope scope own) (hN : X.N.Nodup) (hc : X.calm = true)
    (hi' : X.N[i]? = some n) (hyl : X.env.scope.names.lookup n = some .local) (hsw : swapsWith (.ListComp elt [⟨tg, iter, ifs, 0⟩] scope pos) (some (.Name n pos')) spos.line X.env = pure true) (hfs : ∀ x, foldedSetIterable iter X.env x = pure x) :
    SDs X ρ (.Assign [.Name n pos'] (.ListComp elt [⟨tg, iter, ifs, 0⟩] scope pos) spos :: r) k := sds_lcM i hi (lcG_ok hf).2 hs (lcG_ok hf).1 h hgv ok hN hc hi' hyl hsw hfs
end
/-! ### a, b = e -/
theorem sds_un2 (i j : Nat) {kk : Nat} {p1 p2 : Pos} {ab : D × D} (he : ED X ρ e (.d d) ρ1) (hu : dUn2 d = some ab) (h : SDs X ((ρ1.put i (.d ab.1)).put j (.d ab.2)) r k) (hN : X.N.Nodup) (hc : X.calm = true) (hi : X.N[i]? = some n) (hj : X.N[j]? = some m)
    (hx : Loc X.env.scope n) (hf : X.fn n = true ∨ X.env.scope.names.lookup n = some .local) (hy : Loc X.env.scope m) (hf2 : X.fn m = true ∨ X.env.scope.names.lookup m = some .local)
    (hs : swapsWithSole [.Tuple [.Name n p1, .Name m p2] kk pp] e pos.line X.env = pure false) (hw : swappedStores [.Tuple [.Name n p1, .Name m p2] kk pp] e X.env = pure none) :
    SDs X ρ (.Assign [.Tuple [.Name n p1, .Name m p2] kk pp] e pos :: r) k := by
  obtain ⟨a, b⟩ := ab
  have := dUn2_ok hu
  subst this
  exact sds_asg2 i j he h hN hc hi hj hx hf hy hf2 hs hw
/-! ### the middle of a chain is looked at once -/
theorem ED.sm {A : Option D} (h : some d = some w) (he : ED X ρ e (.d d) ρ1) : ED X ρ e (.d w) ρ1 := by
  have e := DL.sm h
  subst e
  exact he
theorem ED.smB (h : some p = some q) (he : ED X ρ e (.d (.bl p)) ρ1) : ED X ρ e (.d (.bl q)) ρ1 := by
  have e := DL.sm h
  subst e
  exact he
theorem TD.sm (h : some p = some q) (he : TD X ρ e p ρ1) : TD X ρ e q ρ1 := by
  have e := DL.sm h
  subst e
  exact he
/-! ### lists put together -/
def dAddX : D → D → Option D
  | .int i, .int j => some (.int (i + j))
  | .tup a, .tup b => if a.length + b.length ≤ sizeLine then some (.tup (a ++ b)) else none
  | .lst a, .lst b => if a.length + b.length ≤ sizeLine then some (.lst (a ++ b)) else none
  | _, _ => none
end
end DL

namespace DL
open PySem PySem.Spec PyProof.Rows L2
theorem kp_of {K : PySem.W.Frag} {x qual : Str} {params : Arguments} {body : List Stmt} {scope : Scope} {f : Addr} (h : ∃ fd, FunD K x qual params body scope [] [] f fd) : PySem.W.keepIn K (.ref f) = true := let ⟨_, F⟩ := h; F.kp
abbrev rowV (C : Addr) (b : D) : D := .ins C ["blocks"] [b]
section
variable {X : Cx} {ρ ρ' ρ0 ρ1 ρ2 ρ3 : Env} {e a b c tg iter elt : Expr} {es rest ifs : List Expr} {x y z : VD} {xs ys : List VD} {pos apos cpos pp spos : Pos} {p q : Bool} {st : Stmt} {r body orelse : List Stmt} {k : Kn} {ds ds' : List D} {u u' d d' w : D} {n m : Str} {R : FSpec} {vs ws : List Nat} {l l' : List (Nat × D)} {C : Addr} {ns : List Str}
theorem room_u {kk : Nat} {A : Around} (hr : Room kk A) : A.units + 64 < cLine := by have := hr.un; omega
theorem room_u65 {kk : Nat} {A : Around} (hr : Room kk A) : A.units + 65 < cLine := by have := hr.un; omega
theorem TW.sm (h : some p = some q) (he : TW X ρ e p ρ1) : TW X ρ e q ρ1 := by
  have e := DL.sm h
  subst e
  exact he
/-! lists put together -/
def rCatL (K : PySem.W.Frag) : R2 := fun x y H Q => ∃ l b xs zs, x = .ref l ∧ y = .ref b ∧ SqL K H l xs ∧ SqL K H b zs ∧ xs.length + zs.length ≤ sizeLine ∧ ∀ p, H p = none → Q (.ref p) (upd H p (.lst (xs ++ zs)))
theorem op_catL : OpR X (binaryOp .Add) (rCatL X.K) := by
  intro pins s σ H x y v u Q I rx ry h
  obtain ⟨l, b, xs, zs, rfl, rfl, hH, hB, hz, q⟩ := h
  cases rx
  cases ry
  obtain ⟨its, r, e, hl⟩ := I.list hH
  obtain ⟨its2, r2, e2, hl2⟩ := I.list hB
  have n1 := r.length
  have n2 := r2.length
  obtain ⟨⟨cls, dd, data, sl⟩, ho, hc, n, hd⟩ := id e.isList
  obtain ⟨⟨cls2, dd2, data2, sl2⟩, ho2, hc2, m2, hd2⟩ := id e2.isList
  simp only at hc hd hc2 hd2
  subst hc hd hc2 hd2
  have ea : its.toArray ++ its2.toArray = (its ++ its2).toArray := by simp
  refine concat_meets ⟨_, ho, rfl⟩ ⟨_, ho2, rfl⟩ noFill_list_add seq_list_add PySem.F.slot_list_add PySem.F.entry_list_add (PySem.F.args_list_add_2 _ _) (list_addW l b its.toArray its2.toArray n m2 dd dd2 sl sl2 (by rw [List.size_toArray, List.size_toArray]; omega)) ⟨ho, ho2, ?_⟩
  rw [ea]
  exact ⟨.ref _, _, I.lnew (t' := s.toks) (r.append r2) (by rw [List.length_append]; omega), rfl, q _ I.fresh⟩
theorem ed_catL (ha : ED X ρ a (.d (.lst ds)) ρ1) (hb : ED X ρ1 b (.d (.lst ds')) ρ2) (hz : ds.length + ds'.length ≤ sizeLine) : ED X ρ (.BinOp a .Add b pos) (.d (.lst (ds ++ ds'))) ρ2 :=
  ed_of (pe_op op_catL ha hb) fun σ H Q hk => two_ σ H Q _ hk fun fr S ad S1 H1 ad1 v1 v2 A st r1 r2 kk => by
    obtain ⟨l1, vs1, e1, e2, e3⟩ := r1.dd.lst_inv
    obtain ⟨l2, vs2, f1, f2, f3⟩ := r2.dd.lst_inv
    have n1 := e3.length
    have n2 := f3.length
    refine ⟨l1, l2, vs1, vs2, e1, f1, ex_l A.grow.sh e2, ex_l A.grow.sh f2, by omega, fun p hp => ?_⟩
    obtain ⟨A2, st2⟩ := A.newS (o := .lst (vs1 ++ vs2)) hp
    exact kk _ _ ad1 _ st2 A2 (.d (.lst (SqL.of upd_same) ((e3.append f3).mono st2.s)))
theorem ed_addX (ha : ED X ρ a (.d d) ρ1) (hb : ED X ρ1 b (.d d') ρ2) (h : dAddX d d' = some w) : ED X ρ (.BinOp a .Add b pos) (.d w) ρ2 := by
  unfold dAddX at h
  split at h
  · cases h; exact ed_add ha hb
  · split at h
    · cases h; exact ed_catT ha hb (by assumption)
    · cases h
  · split at h
    · cases h; exact ed_catL ha hb (by assumption)
    · cases h
  · cases h
/-! chains -/
theorem td_ltleM (ha : ED X ρ a (.d d) ρ) (hb : ED X ρ b (.d d') ρ) (hc : ED X ρ c (.d w) ρ) (h1 : dLt d d' = some p) (h2 : dLe d' w = some q) (hm : lastMarks [.Lt, .LtE] [b, c] = false := by with_unfolding_all rfl) : TD X ρ (.Compare a [.Lt, .LtE] [b, c] pos) (p && q) ρ := by
  obtain ⟨i, j, rfl, rfl, rfl⟩ := dInt2_ok h1
  obtain ⟨j', k, e, rfl, rfl⟩ := dInt2_ok h2
  cases e
  exact td_ltle ha hb hc hm
/-! in -/
def decStr : D → Option Str
  | .str s => some s
  | _ => none
def decStrs : List D → Option (List Str)
  | [] => some []
  | d :: ds => (decStr d).bind fun i => (decStrs ds).bind fun r => some (i :: r)
theorem decStrs_ok : ∀ {ds : List D} {l : List Str}, decStrs ds = some l → ds = l.map D.str
  | [], l, h => by cases h; rfl
  | d :: ds, l, h => by
    obtain ⟨i, h1, h⟩ := bnd h
    obtain ⟨r, h2, h⟩ := bnd h
    cases h
    have e1 : d = .str i := by cases d <;> simp [decStr] at h1; subst h1; rfl
    rw [e1, decStrs_ok h2]; rfl
def dInX : D → D → Option Bool
  | .int i, u => (u.seq?).bind fun ds => (decInts ds).bind fun l => some (decide (i ∈ l))
  | .str s, u => (u.seq?).bind fun ds => (decStrs ds).bind fun l => some (strsIn s l)
  | _, _ => none
def dNinX (a b : D) : Option Bool := (dInX a b).bind fun p => some (!p)
theorem dNinX_ok (h : dNinX d u = some p) : ∃ q, dInX d u = some q ∧ p = !q := by
  obtain ⟨q, h1, h⟩ := bnd h
  cases h
  exact ⟨q, h1, rfl⟩
theorem td_ninX (ha : ED X ρ a (.d d) ρ1) (hb : ED X ρ1 b (.d u) ρ2) (h : dNinX d u = some p) (hm : behindInMarks .NotIn b = false := by rfl) : TD X ρ (.Compare a [.NotIn] [b] pos) p ρ2 := by
  obtain ⟨q, h9, rfl⟩ := dNinX_ok h
  clear h
  have h := h9
  clear h9
  unfold dInX at h
  split at h
  · obtain ⟨ds, h1, h⟩ := bnd h
    obtain ⟨l, h2, h⟩ := bnd h
    cases h
    exact td_nin ha hb (by rw [h1, decInts_ok h2]) hm
  · obtain ⟨ds, h1, h⟩ := bnd h
    obtain ⟨l, h2, h⟩ := bnd h
    cases h
    exact td_ninS ha hb (by rw [h1, decStrs_ok h2]) hm
  · cases h
/-! max, min of three -/
theorem rv3 {K : PySem.W.Frag} {S : Hp} {ad : List Addr} {vs : List V} {x y z : VD} (h : RvAll K S ad vs [x, y, z]) : ∃ v w u, vs = [v, w, u] ∧ Rv K S ad v x ∧ Rv K S ad w y ∧ Rv K S ad u z := by
  cases h with
  | cons a t =>
    cases t with
    | cons b t =>
      cases t with
      | cons c t => cases t; exact ⟨_, _, _, rfl, a, b, c⟩
/-! match -/
def dM2 (v : D) : Option (Option (D × D)) := match v.seq? with
  | some [a, b] => some (some (a, b))
  | _ => if v.miss = true then some none else none
theorem dM2_hit {x y : D} (h : dM2 d = some (some (x, y))) : d.seq? = some [x, y] := by
  unfold dM2 at h
  split at h
  · rename_i e; cases h; exact e
  · split at h <;> cases h
theorem dM2_miss (h : dM2 d = some none) : d.miss = true := by
  unfold dM2 at h
  split at h
  · cases h
  · split at h
    · assumption
    · cases h
theorem sds_matchM {τ : Type} {A B : Option τ} {t : τ} (i j : Nat) {sub g : Expr} {b1 b2 : List Stmt} {n1 n2 : Str} {p1 p2 p3 p4 : Pos} {x y : D} (he : ED X ρ sub (.d d) ρ1) (hd : d.seq? = some [x, y]) (hg : TD X ((ρ1.put i (.d x)).put j (.d y)) g p ρ2) (h : cond p A B = some t)
    (h1 : A = some t → SDs X ρ2 b1 { k with nx := fun ρ' => SDs X ρ' r k }) (h2 : B = some t → SDs X ρ2 b2 { k with nx := fun ρ' => SDs X ρ' r k })
    (hc : X.calm = true) (hN : X.N.Nodup) (hi : X.N[i]? = some n1) (hj : X.N[j]? = some n2) (hx : Loc X.env.scope n1) (hy : Loc X.env.scope n2) (hfx : X.fn n1 = true ∨ X.env.scope.names.lookup n1 = some .local) (hfy : X.fn n2 = true ∨ X.env.scope.names.lookup n2 = some .local) :
    SDs X ρ (.Match sub [⟨.MatchSequence [.MatchAs none (some n1) p1, .MatchAs none (some n2) p2] p3, some g, b1⟩, ⟨.MatchAs none none p4, none, b2⟩] pos :: r) k := by
  cases p with
  | true => exact sds_matchHit i j he hd hg (fun _ => h1 (ct h)) (fun z => nomatch z) hc hN hi hj hx hy hfx hfy
  | false => exact sds_matchHit i j he hd hg (fun z => nomatch z) (fun _ => h2 (cf h)) hc hN hi hj hx hy hfx hfy
/-! slices, index -/
theorem decInt_ok {i : Int} (h : decInt d = some i) : d = .int i := by cases d <;> simp [decInt] at h; subst h; rfl
theorem pd_someM {i : Int} (h : ED X ρ e (.d d) ρ1) (hi : decInt d = some i) : PD X ρ (some e) (some i) ρ1 := by
  have := decInt_ok hi; subst this; exact pd_some h
def dCut (u : D) (i j : Option Int) : Option D := match u with
  | .lst ds => some (.lst (cutD ds i j))
  | _ => none
/-! objects of the class Row -/
abbrev rowO (C : Addr) (b : D) : OD := .ins C ["blocks"] [.d b]
theorem odd_rowO (C : Addr) (b : D) : ODD (rowO C b) (rowV C b) := .ins C _ allD1
/-- what __init__ of Row gives -/
def R_rowI (M : D → Option D) (C : Addr) : FSpec := fun xs os r os' => ∃ (a1 : D), xs = [.loc 0, .d a1] ∧ os = [.ins C [] []] ∧ r = .non ∧ ∃ t, os' = [.ins C ["blocks"] [.d t]] ∧ M a1 = some t
section
variable {M : D → Option D}
theorem starI (hd : AllD xs ds) (hz : ds.length ≤ sizeLine) (h : M (.tup ds) = some w) : starR (R_rowI M C) (.loc 0 :: xs) [.ins C [] []] .non [rowO C w] := ⟨.loc 0, xs, ds, rfl, hd, hz, _, rfl, rfl, rfl, _, rfl, h⟩
theorem ed_makeR (F : MKc X C n (starR (R_rowI M C))) (ha : AD X ρ (e :: es) xs ρ1) (hd : AllD xs ds) (hz : ds.length ≤ sizeLine) (h : M (.tup ds) = some w) (hg : Gl X n) (hdb : (n == ("__debug__" : Str)) = false)
    (he : starEach (e :: es) X.env = (false, eval e X.env) :: starEach es X.env) (hpl : (backTo pos (starEach es X.env)).any (·.1) = false) : ED X ρ (.Call (.Name n pp) (e :: es) [] pos) (.d (rowV C w)) ρ1 :=
  ed_make F ha hd (starI hd hz h) (odd_rowO C w) hg hdb he hpl
theorem ed_makeR0 (F : MKc X C n (starR (R_rowI M C))) (h : M (.tup []) = some w) (hg : Gl X n) (hdb : (n == ("__debug__" : Str)) = false) : ED X ρ (.Call (.Name n pp) [] [] pos) (.d (rowV C w)) ρ :=
  ed_make0 F (starI .nil (Nat.zero_le _) h) (odd_rowO C w) hg hdb
theorem ed_makeRS (F : MKc X C n (starR (R_rowI M C))) (ha : ED X ρ e (.d u) ρ1) (hu : dSeq u = some ds) (ht : dTup ds = some d) (h : M d = some w) (hg : Gl X n) (hdb : (n == ("__debug__" : Str)) = false)
    (hst : starEach [.Starred e spos] X.env = [(true, eval e X.env)]) : ED X ρ (.Call (.Name n pp) [.Starred e spos] [] pos) (.d (rowV C w)) ρ1 := by
  unfold dTup at ht
  split at ht
  · cases ht; exact ed_makeS F ha hu (starI (.of_map ds) (by assumption) h) (odd_rowO C w) hg hdb hst
  · cases ht
end
/-! x[i] by the class -/
structure CXs (P : Program) (w : World) (K : PySem.W.Frag) (mg : Str → Option Value) (base : Heap) (A : Around) (C : Addr) (m : Str) (R : FSpec) : Prop where
  cs : CSs P w K mg base A C m R
  fi : ∀ f, PySem.W.findIn K (.ref C) m = some (some (.ref f)) → PySem.W.fnIn K f = true
end
end DL

namespace DL
open PySem PySem.Spec PyProof.Rows L2
/-! ### min(lists, key=len) -/
section
variable {prog : Program} {w : World} {A : Around} {E : Value → Shared → Prop} {l J T : Addr} {vs : List Value} {R : Result → Shared → Prop} {Q : Value → Shared → Prop} {B : Heap}
/-- what stood in B stands -/
abbrev Stn (B h : Heap) : Prop := ∀ b o, B.get? b = some o → h.get? b = some o
theorem Stn.list {h : Heap} (k : Stn B h) {a : Addr} {its : Array Value} (x : B.IsList a its) : h.IsList a its := by
  obtain ⟨o, e1, e2⟩ := x
  exact ⟨o, k _ _ e1, e2⟩
end
section
variable {X : Cx} {ρ ρ' ρ0 ρ1 ρ2 ρ3 : Env} {e a b c tg iter elt : Expr} {es rest ifs : List Expr} {x y z : VD} {xs ys : List VD} {pos apos cpos pp kpos p2 : Pos} {p q : Bool} {ds ds' : List D} {u u' d d' w : D}
end
end DL

namespace DL
open PySem PySem.Spec PyProof.Rows L2
section
variable {X : Cx} {ρ ρ' ρ0 ρ1 ρ2 ρ3 : Env} {e a b c tg iter elt : Expr} {es rest ifs : List Expr} {x y z : VD} {xs ys : List VD} {pos apos cpos pp kpos p1 p2 p3 : Pos} {p q : Bool} {ds ds' : List D} {u u' d d' w : D} {n : Str}
/-! ### displays with a star -/
/-! ### any, all -/
/-! ### sorted(set(pairs)) -/
abbrev IP := Int × Int
def ipLt (p q : IP) : Prop := p.1 < q.1 ∨ (p.1 = q.1 ∧ p.2 < q.2)
instance (p q : IP) : Decidable (ipLt p q) := inferInstanceAs (Decidable (_ ∨ _))
end
end DL

namespace DL
open PySem PySem.Spec PyProof.Rows L2
section
variable {X : Cx} {ρ ρ' ρ0 ρ1 ρ2 ρ3 : Env} {e a b c tg iter elt : Expr} {es rest ifs : List Expr} {x y z : VD} {xs ys : List VD} {pos apos cpos pp kpos p1 p2 p3 : Pos} {p q : Bool} {ds ds' dt : List D} {u u' d d' w rr : D} {n m f : Str} {C : Addr} {nms : List Str} {fxs : List VD} {R : FSpec} {os os' : List OD} {ns : List Nat} {o : Nat}
/-! ### an instance that is ours -/
/-! properties -/
structure CPs (P : Program) (w : World) (K : PySem.W.Frag) (mg : Str → Option Value) (base : Heap) (A : Around) (C : Addr) (f : Str) (R : FSpec) : Prop where
  cl : Cls K C
  ex : ∃ p g fd k, PropOf K C f p g ∧ FnOk P w K mg base CX0 k g fd ["self"] (spF K R) ∧ Binds K fd ["self"] [] ∧ Room (k + 1) A
/-! len(o), o ours -/
/-! e in o -/
theorem Lend.two {ow : List (Option OD)} {n m : Nat} {o o' : OD} (h : ow[n]? = some (some o)) (hf : o.free) (h' : ow[m]? = some (some o')) (hf' : o'.free) (hne : n ≠ m) : Lend ow [n, m] [o, o'] := ⟨rfl, by simp [hne], fun i k e => by
  cases i with
  | zero => simp at e; subst e; exact ⟨o, h, rfl, hf⟩
  | succ i =>
    cases i with
    | zero => simp at e; subst e; exact ⟨o', h', rfl, hf'⟩
    | succ i => simp at e⟩
/-! ~o -/
end
end DL

namespace DL
open PySem PySem.Spec PyProof.Rows L2
section
variable {X : Cx} {ρ ρ' ρ0 ρ1 ρ2 ρ3 : Env} {e a b c tg iter elt : Expr} {es rest ifs : List Expr} {x y z : VD} {xs ys : List VD} {pos apos cpos pp kpos p1 p2 p3 : Pos} {p q : Bool} {ds ds' dt : List D} {u u' d d' w rr : D} {n m f : Str}
/-! ### and, or that change what is ours -/
theorem tw_orE {σ : Type} (C : σ → Env) {B : Option (Bool × σ)} {s0 s : σ} (ha : TD X ρ a p (C s0)) (h : cond p (some (true, s0)) B = some (q, s)) (hb : B = some (q, s) → TW X (C s0) (.BoolOp .Or (b :: rest) pos) q (C s)) : TW X ρ (.BoolOp .Or (a :: b :: rest) pos) q (C s) := by
  cases p with
  | false =>
    exact tw_of (pw_or ha (hb (cf h))) fun σ H Q ⟨fr, S, ad, R, k⟩ => ⟨fr, S, ad, R, fun S1 H1 ad1 st R1 => iteF ⟨fr, S1, ad1, R1, fun S2 H2 ad2 st2 R2 => k S2 H2 ad2 (st.trans st2) R2⟩⟩
  | true =>
    have e := sm (ct h)
    cases e
    have hz : PW X (.BoolOp .Or (b :: rest) pos) (fun _ _ _ => False) := ⟨fun _ _ _ _ _ _ _ h => h.elim⟩
    exact tw_of (pw_or ha hz) fun σ H Q ⟨fr, S, ad, R, k⟩ => ⟨fr, S, ad, R, fun S1 H1 ad1 st R1 => iteT (k S1 H1 ad1 st R1)⟩
theorem TW.env (he : TW X ρ e p ρ1) (h : ρ1 = ρ2) : TW X ρ e p ρ2 := h ▸ he
theorem TD.env (he : TD X ρ e p ρ1) (h : ρ1 = ρ2) : TD X ρ e p ρ2 := h ▸ he
/-! ### a tuple so many times -/
theorem RpAll.rep {K : PySem.W.Frag} {S : Hp} {v : V} (h : Rp K S v d) : ∀ n : Nat, RpAll K S (List.replicate n v) (List.replicate n d)
  | 0 => .nil
  | n + 1 => .cons h (RpAll.rep h n)
/-! ### min, max of a list of ints -/
/-! ### index of an int -/
def dIndex : D → D → Option D
  | .lst ds, .int i => (decInts ds).bind fun l => if i ∈ l then some (.int (l.idxOf i)) else none
  | _, _ => none
theorem ed_indexM (hu : X.A.units + 65 < cLine) (ha : ED X ρ a (.d d) ρ1) (hb : ED X ρ1 b (.d d') ρ2) (h : dIndex d d' = some w)
    (hbase : attributeBase a "index" X.env (eval a X.env) = eval a X.env)
    (hfew : ((backTo cpos (starEach [b] X.env)).all (fun x => !x.1) && (backToKw cpos (keywordEach [] X.env)).all (fun x => x.1.isSome)
      && decide ([b].length + ([] : List Keyword).length + (if ([] : List Keyword).isEmpty then 0 else 1) < 30)) = true)
    (hline : (apos.endLine == cpos.line) = true) (hs : starEach [b] X.env = (false, eval b X.env) :: starEach [] X.env) (hplain : (backTo cpos (starEach [] X.env)).any (·.1) = false) :
    ED X ρ (.Call (.Attribute a "index" apos) [b] [] cpos) (.d w) ρ2 := by
  unfold dIndex at h
  split at h
  · obtain ⟨l, e, h⟩ := bnd h
    split at h
    · cases h
      have e3 := decInts_ok e
      subst e3
      exact ed_index hu ha hb (by assumption) hbase hfew hline hs hplain
    · cases h
  · cases h
/-! ### sorted of ints -/
def insI (i : Int) : List Int → List Int
  | [] => [i]
  | j :: l => if i ≤ j then i :: j :: l else j :: insI i l
def sortI (l : List Int) : List Int := l.foldr insI []
theorem insI_perm {i : Int} : ∀ {l : List Int}, (insI i l).Perm (i :: l)
  | [] => .refl _
  | j :: l => by
    unfold insI
    split
    · exact .refl _
    · exact ((insI_perm (l := l)).cons j).trans (.swap i j l)
theorem insI_sorted {i : Int} : ∀ {l : List Int}, l.Pairwise (· ≤ ·) → (insI i l).Pairwise (· ≤ ·)
  | [], _ => by simp [insI]
  | j :: l, h => by
    obtain ⟨h1, h2⟩ := List.pairwise_cons.mp h
    unfold insI
    split
    · rename_i q
      refine List.pairwise_cons.mpr ⟨fun k hk => ?_, h⟩
      rcases List.mem_cons.mp hk with rfl | hk
      · exact q
      · have := h1 k hk; omega
    · refine List.pairwise_cons.mpr ⟨fun k hk => ?_, insI_sorted h2⟩
      rcases List.mem_cons.mp (insI_perm.mem_iff.mp hk) with rfl | hk
      · omega
      · exact h1 k hk
theorem sortI_perm (l : List Int) : (sortI l).Perm l := by
  unfold sortI
  induction l with
  | nil => exact .refl _
  | cons a l ih => exact insI_perm.trans (ih.cons a)
theorem sortI_sorted (l : List Int) : (sortI l).Pairwise (· ≤ ·) := by
  unfold sortI
  induction l with
  | nil => simp
  | cons a l ih => exact insI_sorted ih
theorem sorted_uni : ∀ {l l' : List Int}, l.Perm l' → l.Pairwise (· ≤ ·) → l'.Pairwise (· ≤ ·) → l = l'
  | [], l', h, _, _ => (List.nil_perm.mp h).symm
  | a :: l, [], h, _, _ => absurd h.length_eq (by simp)
  | a :: l, b :: l', h, h1, h2 => by
    obtain ⟨a1, a2⟩ := List.pairwise_cons.mp h1
    obtain ⟨b1, b2⟩ := List.pairwise_cons.mp h2
    have e : a = b := by
      have q1 : a ≤ b := by
        rcases List.mem_cons.mp (h.mem_iff.mpr (List.mem_cons_self (a := b))) with e | e
        · omega
        · exact a1 b e
      have q2 : b ≤ a := by
        rcases List.mem_cons.mp (h.mem_iff.mp (List.mem_cons_self (a := a))) with e | e
        · omega
        · exact b1 a e
      omega
    subst e
    rw [sorted_uni (List.Perm.cons_inv h) a2 b2]
end
end DL

namespace DL
open PySem PySem.Spec PyProof.Rows L2
/-! ### dicts with int keys -/
abbrev DM := List (Int × D)
def dKs (m : DM) : List Key := m.map fun p => .inl p.1
def dVs (m : DM) : List D := m.map (·.2)
def dcD (m : DM) : D := .dic (dKs m) (dVs m)
def decK : List Key → List D → Option DM
  | [], [] => some []
  | .inl i :: ks, d :: ds => (decK ks ds).bind fun r => some ((i, d) :: r)
  | _, _ => none
theorem decK_ok : ∀ {ks : List Key} {ds : List D} {m : DM}, decK ks ds = some m → ks = dKs m ∧ ds = dVs m
  | [], [], m, h => by cases h; exact ⟨rfl, rfl⟩
  | .inl i :: ks, d :: ds, m, h => by
    obtain ⟨r, h1, h⟩ := bnd h
    cases h
    obtain ⟨e1, e2⟩ := decK_ok h1
    subst e1 e2
    exact ⟨rfl, rfl⟩
  | .inr _ :: _, _ :: _, m, h => by cases h
  | [], _ :: _, m, h => by cases h
  | .inl _ :: _, [], m, h => by cases h
  | .inr _ :: _, [], m, h => by cases h
theorem decK_of : ∀ m : DM, decK (dKs m) (dVs m) = some m
  | [] => rfl
  | (i, d) :: m => by
    show (decK (dKs m) (dVs m)).bind _ = _
    rw [decK_of m]; rfl
def decDic : D → Option DM
  | .dic ks ds => decK ks ds
  | _ => none
theorem decDic_ok {d : D} {m : DM} (h : decDic d = some m) : d = dcD m := by
  cases d <;> simp only [decDic] at h <;> try cases h
  obtain ⟨e1, e2⟩ := decK_ok h
  subst e1 e2; rfl
@[simp] theorem decDic_of (m : DM) : decDic (dcD m) = some m := decK_of m
def mGet : DM → Int → Option D
  | [], _ => none
  | (k, d) :: m, i => if k = i then some d else mGet m i
def mPut : DM → Int → D → DM
  | [], i, d => [(i, d)]
  | (k, e) :: m, i, d => if k = i then (k, d) :: mRep m i d else (k, e) :: mPut m i d
where mRep : DM → Int → D → DM
  | [], _, _ => []
  | (k, e) :: m, i, d => (if k = i then (k, d) else (k, e)) :: mRep m i d
/-- raw tables and theirs -/
def RK (K : PySem.W.Frag) (S : Hp) : List (Key × V) → DM → Prop
  | [], [] => True
  | (k, v) :: r, (i, d) :: m => k = .inl i ∧ Rp K S v d ∧ RK K S r m
  | _, _ => False
section
variable {K : PySem.W.Frag} {S S' : Hp}
theorem RK.mono (e : Ex S S') : ∀ {kvs : List (Key × V)} {m : DM}, RK K S kvs m → RK K S' kvs m
  | [], [], _ => trivial
  | (k, v) :: r, (i, d) :: m, ⟨h1, h2, h3⟩ => ⟨h1, h2.mono e, RK.mono e h3⟩
  | [], _ :: _, h => h.elim
  | _ :: _, [], h => h.elim
theorem RK.length : ∀ {kvs : List (Key × V)} {m : DM}, RK K S kvs m → kvs.length = m.length
  | [], [], _ => rfl
  | (k, v) :: r, (i, d) :: m, ⟨h1, h2, h3⟩ => by simp [RK.length h3]
  | [], _ :: _, h => h.elim
  | _ :: _, [], h => h.elim
theorem RK.to : ∀ {kvs : List (Key × V)} {m : DM}, RK K S kvs m → ∃ vs, kvs = (dKs m).zip vs ∧ (dKs m).length = vs.length ∧ RpAll K S vs (dVs m)
  | [], [], _ => ⟨[], rfl, rfl, .nil⟩
  | (k, v) :: r, (i, d) :: m, ⟨h1, h2, h3⟩ => by
    obtain ⟨vs, e1, e2, e3⟩ := RK.to h3
    subst h1 e1
    exact ⟨v :: vs, rfl, by simp [dKs] at e2 ⊢; exact e2, .cons h2 e3⟩
  | [], _ :: _, h => h.elim
  | _ :: _, [], h => h.elim
theorem RK.of : ∀ {m : DM} {vs : List V}, RpAll K S vs (dVs m) → RK K S ((dKs m).zip vs) m
  | [], vs, _ => by show RK K S ([].zip vs) []; simp [RK]
  | (i, d) :: m, _, h => by
    cases h with
    | cons a b => exact ⟨rfl, a, RK.of b⟩
theorem RK.val : ∀ {kvs : List (Key × V)} {m : DM} (h : RK K S kvs m) (i : Int), (∃ v d, valV kvs (.inl i) = some v ∧ mGet m i = some d ∧ Rp K S v d) ∨ (valV kvs (.inl i) = none ∧ mGet m i = none)
  | [], [], _, i => .inr ⟨rfl, rfl⟩
  | (k, v) :: r, (j, d) :: m, ⟨h1, h2, h3⟩, i => by
    subst h1
    unfold mGet
    by_cases e : j = i
    · subst e
      exact .inl ⟨v, d, valV_pos rfl, by rw [if_pos rfl], h2⟩
    · rw [valV_neg (by intro z; exact e (Sum.inl.inj z)), if_neg e]
      exact RK.val h3 i
  | [], _ :: _, h, _ => h.elim
  | _ :: _, [], h, _ => h.elim
theorem RK.rep {i : Int} {v : V} {d : D} (hd : Rp K S v d) : ∀ {kvs : List (Key × V)} {m : DM}, RK K S kvs m → RK K S (kvs.map fun kv => if kv.1 = .inl i then (kv.1, v) else kv) (mPut.mRep m i d)
  | [], [], _ => trivial
  | (k, w) :: r, (j, e) :: m, ⟨h1, h2, h3⟩ => by
    subst h1
    have ih := RK.rep (i := i) hd h3
    rw [List.map_cons]
    unfold mPut.mRep
    by_cases q : j = i
    · subst q
      rw [if_pos rfl, if_pos rfl]
      exact ⟨rfl, hd, ih⟩
    · rw [if_neg (by intro z; exact q (Sum.inl.inj z)), if_neg q]
      exact ⟨rfl, h2, ih⟩
  | [], _ :: _, h => h.elim
  | _ :: _, [], h => h.elim
theorem putK_cons_ne {k k' : Key} {w v : V} {r : List (Key × V)} (h : ¬ k' = k) : putK ((k', w) :: r) k v = (k', w) :: putK r k v := by
  unfold putK
  rw [List.any_cons, decide_eq_false h, Bool.false_or]
  split
  · rw [List.map_cons, if_neg h]
  · rfl
theorem putK_cons_eq {k : Key} {w v : V} {r : List (Key × V)} : putK ((k, w) :: r) k v = (k, v) :: r.map (fun kv => if kv.1 = k then (kv.1, v) else kv) := by
  unfold putK
  rw [List.any_cons, decide_eq_true rfl, Bool.true_or, if_pos rfl, List.map_cons, if_pos rfl]
theorem RK.put {i : Int} {v : V} {d : D} (hd : Rp K S v d) : ∀ {kvs : List (Key × V)} {m : DM}, RK K S kvs m → RK K S (putK kvs (.inl i) v) (mPut m i d)
  | [], [], _ => ⟨rfl, hd, trivial⟩
  | (k, w) :: r, (j, e) :: m, ⟨h1, h2, h3⟩ => by
    subst h1
    unfold mPut
    by_cases q : j = i
    · subst q
      rw [putK_cons_eq, if_pos rfl]
      exact ⟨rfl, hd, RK.rep hd h3⟩
    · rw [putK_cons_ne (by intro z; exact q (Sum.inl.inj z)), if_neg q]
      exact ⟨rfl, h2, RK.put hd h3⟩
  | [], _ :: _, h => h.elim
  | _ :: _, [], h => h.elim
theorem Rp.dic_inv {v : V} {m : DM} (h : Rp K S v (dcD m)) : ∃ a o kvs, v = .ref a ∧ S a = some (.frz o (.dK kvs)) ∧ RK K S kvs m := by
  unfold dcD at h
  cases h with
  | dic q l r => exact ⟨_, _, _, rfl, q, RK.of r⟩
theorem RK.rp {a : Addr} {o : Obj} {kvs : List (Key × V)} {m : DM} (h : RK K S kvs m) (e : S a = some (.frz o (.dK kvs))) : Rp K S (.ref a) (dcD m) := by
  obtain ⟨vs, e1, e2, e3⟩ := h.to
  subst e1
  exact .dic e e2 e3
end
/-! a dict of ours is given up: it is locked -/
theorem Rel.fzK {K : PySem.W.Frag} {fr : Fr} {ρ : Env} {σ : L2.St} {S H : Hp} {ad : List Addr} (R : Rel K fr ρ σ S H ad) {n : Nat} {m : DM} (hn : ρ.ow[n]? = some (some (.dic (dKs m) (dVs m)))) (hm : ρ.m ≤ n) :
    ∃ l kvs, ad[n]? = some l ∧ H l = some (.dK kvs) ∧ ∀ od, ∃ S', Step S ad S' ad ∧ Rel K fr (ρ.fz n (dcD m)) σ S' (upd H l (.frz od (.dK kvs))) ad ∧ Rp K S' (.ref l) (dcD m) := by
  obtain ⟨l, ho, e1, e2, e3, e4, e5⟩ := R.own n _ hn
  cases ho <;> first | exact e4.elim | skip
  rename_i kvs
  obtain ⟨vs0, g1, g2, g3⟩ := e4
  refine ⟨l, kvs, e1, e3, fun od => ?_⟩
  have hst : Step S ad (upd S l (.frz od (.dK kvs))) ad := ⟨.new e2, [], by simp⟩
  have hlt := (List.getElem?_eq_some_iff.mp hn).1
  have rp : Rp K (upd S l (.frz od (.dK kvs))) (.ref l) (dcD m) := by
    subst g1
    exact .dic upd_same g2 (g3.mono hst.s)
  refine ⟨_, hst, ⟨⟨R.grow.s.trans hst.s, fun a u e => ?_, fun a u e hM => ?_, fun a h1 h2 h3 => ?_⟩, fun i x e => ?_, fun j u e => ?_, R.mm, R.nd, ?_, ?_, fun j hj => ?_, fun a ha => upd_some (R.lv a ha)⟩, rp⟩
  · by_cases h : a = l
    · subst h; rw [upd_same] at e ⊢; exact e
    · rw [upd_ne h] at e ⊢; exact R.grow.sh a u e
  · have ne : a ≠ l := fun z => by rw [z, e5 hm] at e; cases e
    rw [upd_ne ne]; exact R.grow.h a u e hM
  · have ne : a ≠ l := fun z => h2 (z ▸ e5 hm)
    rw [upd_ne ne]; exact R.grow.n a h1 h2 h3
  · have e' : (ρ.sl.map (Option.map (fzV n (dcD m))))[i]? = some (some x) := e
    rw [List.getElem?_map] at e'
    cases q : ρ.sl[i]? with
    | none => rw [q] at e'; cases e'
    | some y =>
      rw [q] at e'
      cases y with
      | none => cases e'
      | some y =>
        have e'' : fzV n (dcD m) y = x := by simpa using e'
        obtain ⟨v, f1, f2⟩ := R.slots i y q
        exact ⟨v, f1, e'' ▸ fzV_ok e1 rp (f2.mono hst)⟩
  · have e' : ((ρ.ow.set n none).map (Option.map (fzO n (dcD m))))[j]? = some (some u) := e
    rw [List.getElem?_map] at e'
    by_cases hj : j = n
    · subst hj
      rw [List.getElem?_set_self hlt] at e'; cases e'
    · rw [List.getElem?_set_ne (Ne.symm hj)] at e'
      cases q : ρ.ow[j]? with
      | none => rw [q] at e'; cases e'
      | some y =>
        rw [q] at e'
        cases y with
        | none => cases e'
        | some y =>
          have e'' : fzO n (dcD m) y = u := by simpa using e'
          obtain ⟨l2, u2, f1, f2, f3, f4, f5⟩ := R.own j y q
          have ne : l2 ≠ l := fun z => by subst z; exact hj (nodup_ixA R.nd f1 e1)
          refine ⟨l2, u2, f1, by rw [upd_ne ne]; exact f2, by rw [upd_ne ne]; exact f3, ?_, f5⟩
          have f4 := f4.mono hst
          subst e''
          cases u2 <;> cases y <;> first | exact f4.elim | exact f4 | skip
          obtain ⟨h0, vs, h1, h2, h3⟩ := f4
          exact ⟨h0, vs, h1, h2, fzAll_ok e1 rp h3⟩
  · show (ρ.sl.map _).length = _
    rw [List.length_map]; exact R.len
  · show _ = ((ρ.ow.set n none).map _).length
    rw [List.length_map, List.length_set]; exact R.al
  · obtain ⟨o', e⟩ := R.ml j hj
    have hj' : j ≠ n := by
      have : j < ρ.m := hj
      omega
    refine ⟨fzO n (dcD m) o', ?_⟩
    show ((ρ.ow.set n none).map (Option.map (fzO n (dcD m))))[j]? = _
    rw [List.getElem?_map, List.getElem?_set_ne (Ne.symm hj'), e]; rfl
section
variable {X : Cx} {ρ ρ' ρ0 ρ1 ρ2 ρ3 : Env} {e a b c tg iter elt : Expr} {es rest ifs : List Expr} {x y z : VD} {xs ys : List VD} {pos apos cpos pp : Pos} {p q : Bool} {st : Stmt} {r body orelse : List Stmt} {k : Kn} {ds ds' : List D} {u u' d d' w : D} {n : Str} {R : FSpec} {m m' : DM}
theorem ED.fzK {n : Nat} (he : ED X ρ e (.loc n) ρ1) (hn : ρ1.ow[n]? = some (some (.dic (dKs m) (dVs m)))) (hm : ρ1.m ≤ n) : ED X ρ e (.d (dcD m)) (ρ1.fz n (dcD m)) := by
  refine ⟨fun pins s σ H Q I ⟨fr, S, ad, A, kk⟩ => ?_⟩
  refine thn (he.run pins s σ H (fun v H1 => ∃ l kvs, v = .ref l ∧ H1 l = some (.dK kvs) ∧ ∀ od, Q v (upd H1 l (.frz od (.dK kvs)))) I ⟨fr, S, ad, A, fun S1 H1 ad1 v st A1 r1 => ?_⟩) fun v s1 ⟨x, H1, I2, r, l, kvs, hx, hl, q⟩ => ?_
  · obtain ⟨l, kvs, f1, f2, f3⟩ := A1.fzK hn hm
    obtain ⟨l', g1, g2⟩ := r1.dl
    rw [f1] at g2; cases g2
    subst g1
    refine ⟨l, kvs, rfl, f2, fun od => ?_⟩
    obtain ⟨S2, st2, A2, rp⟩ := f3 od
    exact kk S2 _ ad1 _ (st.trans st2) A2 (.d rp)
  · obtain ⟨od, I3⟩ := I2.lock hl trivial
    exact ⟨x, _, I3, r, q od⟩
/-! reading -/
theorem own_dic {K : PySem.W.Frag} {fr : Fr} {ρ : Env} {σ : L2.St} {S H : Hp} {ad : List Addr} (A : Rel K fr ρ σ S H ad) {n : Nat} (hn : ρ.ow[n]? = some (some (.dic (dKs m) (dVs m)))) {v : V} (r : Rv K S ad v (.loc n)) : ∃ l kvs, v = .ref l ∧ ad[n]? = some l ∧ H l = some (.dK kvs) ∧ RK K S kvs m := by
  obtain ⟨l, e1, e2⟩ := r.dl
  obtain ⟨l', ho, f1, f2, f3, f4, _⟩ := A.own n _ hn
  rw [e2] at f1; cases f1
  cases ho <;> first | exact f4.elim | skip
  rename_i kvs
  obtain ⟨vs, g1, g2, g3⟩ := f4
  subst g1
  exact ⟨l, _, e1, e2, f3, RK.of g3⟩
/-! writing -/
def mSet (m : DM) (i d : D) : Option DM := (decInt i).bind fun j => if m.length < sizeLine then some (mPut m j d) else none
theorem sds_dputM {n : Nat} {pos' : Pos} (hu : X.A.units + 1 < cLine) (hv : ED X ρ e (.d d) ρ1) (ho : ED X ρ1 a (.loc n) ρ2) (hi : ED X ρ2 b (.d d') ρ3) (hn : ρ3.ow[n]? = some (some (.dic (dKs m) (dVs m)))) (hj0 : mSet m d' d = some m')
    (h : SDs X { ρ3 with ow := ρ3.ow.set n (some (.dic (dKs m') (dVs m'))) } r k) (hs : swapsWith e (some (.Subscript a b pos')) pos.line X.env = pure false := by rfl) : SDs X ρ (.Assign [.Subscript a b pos'] e pos :: r) k := by
  obtain ⟨j, h2, hj⟩ := bnd hj0
  clear hj0
  have e2 := decInt_ok h2
  subst e2
  split at hj
  · rename_i hz
    cases hj
    refine sds_cons (sd_of (ps_dput hu ho hi hv hs) fun Dn σ H ⟨fr, S, ad, A, kk⟩ => ⟨fr, S, ad, A, fun S1 H1 ad1 v st1 A1 r1 => ⟨fr, S1, ad1, A1, fun S2 H2 ad2 v2 st2 A2 r2 => ⟨fr, S2, ad2, A2, fun S3 H3 ad3 v3 st3 A3 r3 => ?_⟩⟩⟩)
    obtain ⟨l, kvs, f1, f0, f2, f3⟩ := own_dic A3 hn (r2.mono st3)
    refine ⟨l, _, f1, .inl ⟨kvs, .inl j, f2, r3.di, by rw [f3.length]; exact hz, rfl⟩, kk.nx _ σ S3 _ ad3 h (A3.setO hn f0 ?_)⟩
    exact (f3.put ((r1.mono (st2.trans st3)).dd)).to
  · cases hj
/-! walking -/
end
end DL

namespace DL
open PySem PySem.Spec PyProof.Rows L2
section
variable {X : Cx} {ρ ρ' ρ0 ρ1 ρ2 ρ3 : Env} {e a b c tg iter elt kx vx : Expr} {es rest ifs : List Expr} {x y z : VD} {xs ys : List VD} {pos apos cpos pp : Pos} {p q : Bool} {st : Stmt} {r body orelse : List Stmt} {k : Kn} {ds ds' : List D} {u u' d d' w : D} {n : Str} {R : FSpec} {m m' : DM}
/-! a new dict that is data: locked when it is there -/
/-! dict(pairs) -/
/-! == and != of dicts that are equal, values ints -/
/-! {k: v} -/
theorem ed_dispO {kpos : Pos} (hk : ED X { ρ with ow := ρ.ow ++ [some (.dic (dKs []) (dVs []))] } kx (.d d) { ρ with ow := ρ.ow ++ [some (.dic (dKs []) (dVs []))] }) (hv : ED X { ρ with ow := ρ.ow ++ [some (.dic (dKs []) (dVs []))] } vx (.d d') { ρ with ow := ρ.ow ++ [some (.dic (dKs []) (dVs []))] }) (hj : mSet [] d d' = some m) :
    ED X ρ (.Dict [some kx] [vx] pos) (.loc ρ.ow.length) { ρ with ow := ρ.ow ++ [some (.dic (dKs m) (dVs m))] } := by
  obtain ⟨j, h2, h3⟩ := bnd hj
  clear hj
  have e2 := decInt_ok h2
  subst e2
  rw [if_pos (by rw [sizeLine_eq]; exact Nat.zero_lt_succ _)] at h3
  cases h3
  refine ed_of (pe_disp (pps_cons hk hv pps_nil) rfl rfl (by simp) (by simp)) fun σ H Q ⟨fr, S, ad, A, kk⟩ p hp => ?_
  obtain ⟨A1, st1, e1⟩ := A.newO (p := p) (ho := .dK []) (o := .dic (dKs []) (dVs [])) hp ⟨[], rfl, rfl, .nil⟩
  refine ⟨fr, S, _, A1, fun S2 H2 ad2 v2 st2 A2 r2 => ⟨fr, S2, ad2, A2, fun S3 H3 ad3 v3 st3 A3 r3 => ?_⟩⟩
  have hn : (ρ.ow ++ [some (OD.dic (dKs []) (dVs []))])[ρ.ow.length]? = some (some (.dic (dKs []) (dVs []))) := by simp
  have e3 : ad3[ρ.ow.length]? = some p := (st2.trans st3).get e1
  obtain ⟨l, kvs, f1, f0, f2, f3⟩ := own_dic (m := []) A3 hn (v := .ref p) (.loc e3)
  rw [e3] at f0; cases f0
  cases kvs with
  | cons _ _ => exact f3.elim
  | nil =>
    refine ⟨f2, [(.inl j, v3)], ?_, by simp, ?_⟩
    · have := (r2.mono st3).di
      subst this
      rfl
    · have A4 := A3.setO hn e3 (ho := .dK (mergeK [] [(.inl j, v3)])) (o' := .dic (dKs [(j, d')]) (dVs [(j, d')])) (show ∃ vs, _ from ⟨[v3], rfl, rfl, .cons r3.dd .nil⟩)
      have e5 : ({ { ρ with ow := ρ.ow ++ [some (OD.dic (dKs []) (dVs []))] } with ow := (ρ.ow ++ [some (OD.dic (dKs []) (dVs []))]).set ρ.ow.length (some (.dic (dKs [(j, d')]) (dVs [(j, d')]))) } : Env) = { ρ with ow := ρ.ow ++ [some (.dic (dKs [(j, d')]) (dVs [(j, d')]))] } := by
        simp
      rw [e5] at A4
      exact kk S3 _ ad3 _ ((st1.trans st2).trans st3) A4 (.loc e3)
/-! {k: v for ..}, nothing is changed -/
end
end DL

namespace DL
open PySem PySem.Spec PyProof.Rows L2
section
variable {X : Cx} {ρ ρ' ρ0 ρ1 ρ2 ρ3 : Env} {e a b c tg iter elt kx vx : Expr} {es rest ifs : List Expr} {x y z : VD} {xs ys : List VD} {pos apos cpos pp : Pos} {p q : Bool} {st : Stmt} {r body orelse : List Stmt} {k : Kn} {ds ds' : List D} {u u' d d' w : D} {n : Str} {R : FSpec} {m m' : DM} {l : List (Nat × D)} {vs : List Nat}
/-! {k: v for ..} -/
/-! a part of a list or tuple -/
def dCutX (u : D) (i j : Option Int) : Option D := match u with
  | .lst ds => some (.lst (DL.cutD ds i j))
  | .tup ds => some (.tup (DL.cutD ds i j))
  | _ => none
theorem ed_sliceX {lo hi : Option Expr} {i j : Option Int} {p2 : Pos} (ha : ED X ρ a (.d d) ρ1) (hl : PD X ρ1 lo i ρ2) (hh : PD X ρ2 hi j ρ3) (h : dCutX d i j = some w) : ED X ρ (.Subscript a (.Slice lo hi none p2) pos) (.d w) ρ3 := by
  cases d <;> simp only [dCutX] at h <;> try cases h
  · exact ed_slice ha hl hh
  · rename_i ds
    refine ed_of (pe_slice sl_tupA ha hl hh) fun σ H Q ⟨fr, S, ad, A, kk⟩ => ⟨fr, S, ad, A, fun S1 H1 ad1 v st1 A1 r1 => ⟨fr, S1, ad1, A1, fun S2 H2 ad2 st2 A2 => ⟨fr, S2, ad2, A2, fun S3 H3 ad3 st3 A3 => ?_⟩⟩⟩
    obtain ⟨l, vs, e1, e2, e3⟩ := (r1.mono (st2.trans st3)).dd.tup_at
    refine ⟨l, vs, e1, ex_t A3.grow.sh (SqT.of e2), fun hw => ?_, fun _ p hp => ?_⟩
    · have e4 : DL.cutD ds i j = ds := by
        unfold DL.cutD
        rw [← e3.length, hw.1, hw.2, Nat.sub_zero, List.drop_zero, e3.length, List.take_length]
      rw [e4] at kk
      exact kk S3 H3 ad3 _ ((st1.trans st2).trans st3) A3 (.d (.tup e2 e3))
    · obtain ⟨A4, st4⟩ := A3.newS (o := .tup (cutV vs i j)) hp
      exact kk _ _ ad3 _ (((st1.trans st2).trans st3).trans st4) A4 (.d (.tup upd_same ((cutD_ok e3 i j).mono st4.s)))
/-! an object and an int, by a method of ours -/
theorem room_u1 {kk : Nat} {A : Around} (hr : Room kk A) : A.units + 1 < cLine := by have := hr.un; omega
end
end DL

namespace DL
open PySem PySem.Spec PyProof.Rows L2
/-! ### objects compared by a method of ours -/
section
variable {M : Model} {prog : Program} {w : World} {A : Around} {E : Value → Shared → Prop} {s : Shared} {K : PySem.W.Frag} {x C f : Addr} {ox : Obj} {od : Option Obj}
end
section
variable {X : Cx} {ρ ρ1 ρ2 : Env} {a b : Expr} {pos : Pos} {p : Bool} {ds ds' : List D} {C : Addr} {ns : List Str} {R : FSpec} {rr : D}
end
end DL

namespace DL
open PySem PySem.Spec PyProof.Rows L2
/-! ### isinstance(x, a class of ours) -/
section
variable {X : Cx} {ρ : Env} {ds : List D} {C : Addr} {ns : List Str}
end
end DL

namespace DL
open PySem PySem.Spec PyProof.Rows L2
/-! ### sorted of a list of pairs -/
section
variable {X : Cx}
end
section
variable {X : Cx} {ρ : Env} {d w : D}
end
end DL

namespace DL
open PySem PySem.Spec PyProof.Rows L2
/-! ### dicts with tuple keys -/
def kD : Key → D
  | .inl i => .int i
  | .inr s => .str s
def decKey : D → Option Key
  | .int i => some (.inl i)
  | .str s => some (.inr s)
  | _ => none
@[simp] theorem decKey_of (k : Key) : decKey (kD k) = some k := by cases k <;> rfl
def decKeys : List D → Option (List Key)
  | [] => some []
  | d :: ds => (decKey d).bind fun k => (decKeys ds).bind fun r => some (k :: r)
@[simp] theorem decKeys_of : ∀ ks : List Key, decKeys (ks.map kD) = some ks
  | [] => rfl
  | k :: ks => by
    show (decKey (kD k)).bind _ = _
    rw [decKey_of]
    show (decKeys (ks.map kD)).bind _ = _
    rw [decKeys_of ks]; rfl
abbrev tkD (ks : List Key) : D := .tup (ks.map kD)
def decTK : D → Option (List Key)
  | .tup ds => decKeys ds
  | _ => none
@[simp] theorem decTK_of (ks : List Key) : decTK (tkD ks) = some ks := decKeys_of ks
theorem Rp.key {K : PySem.W.Frag} {S : Hp} {v : V} {k : Key} (h : Rp K S v (kD k)) : v = kV k := by
  cases k with
  | inl i => exact h.int_inv
  | inr s => exact h.str_inv
theorem RpAll.keys {K : PySem.W.Frag} {S : Hp} : ∀ {ks : List Key} {vs : List V}, RpAll K S vs (ks.map kD) → vs = ks.map kV
  | [], _, h => by cases h; rfl
  | k :: ks, _, h => by
    cases h with
    | cons a b => rw [a.key, RpAll.keys b]; rfl
abbrev TM := List (List Key × D)
def tKs (m : TM) : List (List Key) := m.map (·.1)
def tVs (m : TM) : List D := m.map (·.2)
def dtD (m : TM) : D := .dit (tKs m) (tVs m)
def tGet : TM → List Key → Option D
  | [], _ => none
  | (k, d) :: m, i => if k = i then some d else tGet m i
def tPut : TM → List Key → D → TM
  | [], i, d => [(i, d)]
  | (k, e) :: m, i, d => if k = i then (k, d) :: tRep m i d else (k, e) :: tPut m i d
where tRep : TM → List Key → D → TM
  | [], _, _ => []
  | (k, e) :: m, i, d => (if k = i then (k, d) else (k, e)) :: tRep m i d
def decDit : D → Option TM
  | .dit ks ds => if ks.length = ds.length then some (ks.zip ds) else none
  | _ => none
@[simp] theorem decDit_of (m : TM) : decDit (dtD m) = some m := by
  unfold dtD decDit
  dsimp only
  rw [if_pos (by simp [tKs, tVs])]
  congr 1
  unfold tKs tVs
  induction m with
  | nil => rfl
  | cons p m ih => simp only [List.map_cons, List.zip_cons_cons, ih]
def RT (K : PySem.W.Frag) (S : Hp) : List (List Key × V) → TM → Prop
  | [], [] => True
  | (k, v) :: r, (i, d) :: m => k = i ∧ Rp K S v d ∧ RT K S r m
  | _, _ => False
section
variable {K : PySem.W.Frag} {S S' : Hp}
theorem RT.mono (e : Ex S S') : ∀ {kvs : List (List Key × V)} {m : TM}, RT K S kvs m → RT K S' kvs m
  | [], [], _ => trivial
  | (k, v) :: r, (i, d) :: m, ⟨h1, h2, h3⟩ => ⟨h1, h2.mono e, RT.mono e h3⟩
  | [], _ :: _, h => h.elim
  | _ :: _, [], h => h.elim
theorem RT.length : ∀ {kvs : List (List Key × V)} {m : TM}, RT K S kvs m → kvs.length = m.length
  | [], [], _ => rfl
  | (k, v) :: r, (i, d) :: m, ⟨h1, h2, h3⟩ => by simp [RT.length h3]
  | [], _ :: _, h => h.elim
  | _ :: _, [], h => h.elim
theorem RT.to : ∀ {kvs : List (List Key × V)} {m : TM}, RT K S kvs m → ∃ vs, kvs = (tKs m).zip vs ∧ (tKs m).length = vs.length ∧ RpAll K S vs (tVs m)
  | [], [], _ => ⟨[], rfl, rfl, .nil⟩
  | (k, v) :: r, (i, d) :: m, ⟨h1, h2, h3⟩ => by
    obtain ⟨vs, e1, e2, e3⟩ := RT.to h3
    subst h1 e1
    exact ⟨v :: vs, rfl, by simp [tKs] at e2 ⊢; exact e2, .cons h2 e3⟩
  | [], _ :: _, h => h.elim
  | _ :: _, [], h => h.elim
theorem RT.of : ∀ {m : TM} {vs : List V}, RpAll K S vs (tVs m) → RT K S ((tKs m).zip vs) m
  | [], vs, _ => by show RT K S ([].zip vs) []; simp [RT]
  | (i, d) :: m, _, h => by
    cases h with
    | cons a b => exact ⟨rfl, a, RT.of b⟩
theorem RT.val : ∀ {kvs : List (List Key × V)} {m : TM} (h : RT K S kvs m) (i : List Key), (∃ v d, valV kvs i = some v ∧ tGet m i = some d ∧ Rp K S v d) ∨ (valV kvs i = none ∧ tGet m i = none)
  | [], [], _, i => .inr ⟨rfl, rfl⟩
  | (k, v) :: r, (j, d) :: m, ⟨h1, h2, h3⟩, i => by
    subst h1
    unfold tGet
    by_cases e : k = i
    · subst e
      exact .inl ⟨v, d, valV_pos rfl, by rw [if_pos rfl], h2⟩
    · rw [valV_neg e, if_neg e]
      exact RT.val h3 i
  | [], _ :: _, h, _ => h.elim
  | _ :: _, [], h, _ => h.elim
theorem RT.rep {i : List Key} {v : V} {d : D} (hd : Rp K S v d) : ∀ {kvs : List (List Key × V)} {m : TM}, RT K S kvs m → RT K S (kvs.map fun kv => if kv.1 = i then (kv.1, v) else kv) (tPut.tRep m i d)
  | [], [], _ => trivial
  | (k, w) :: r, (j, e) :: m, ⟨h1, h2, h3⟩ => by
    subst h1
    have ih := RT.rep (i := i) hd h3
    rw [List.map_cons]
    unfold tPut.tRep
    by_cases q : k = i
    · subst q
      rw [if_pos rfl, if_pos rfl]
      exact ⟨rfl, hd, ih⟩
    · rw [if_neg q, if_neg q]
      exact ⟨rfl, h2, ih⟩
  | [], _ :: _, h => h.elim
  | _ :: _, [], h => h.elim
theorem putT_cons_ne {k k' : List Key} {w v : V} {r : List (List Key × V)} (h : ¬ k' = k) : putK ((k', w) :: r) k v = (k', w) :: putK r k v := by
  unfold putK
  rw [List.any_cons, decide_eq_false h, Bool.false_or]
  split
  · rw [List.map_cons, if_neg h]
  · rfl
theorem putT_cons_eq {k : List Key} {w v : V} {r : List (List Key × V)} : putK ((k, w) :: r) k v = (k, v) :: r.map (fun kv => if kv.1 = k then (kv.1, v) else kv) := by
  unfold putK
  rw [List.any_cons, decide_eq_true rfl, Bool.true_or, if_pos rfl, List.map_cons, if_pos rfl]
theorem RT.put {i : List Key} {v : V} {d : D} (hd : Rp K S v d) : ∀ {kvs : List (List Key × V)} {m : TM}, RT K S kvs m → RT K S (putK kvs i v) (tPut m i d)
  | [], [], _ => ⟨rfl, hd, trivial⟩
  | (k, w) :: r, (j, e) :: m, ⟨h1, h2, h3⟩ => by
    subst h1
    unfold tPut
    by_cases q : k = i
    · subst q
      rw [putT_cons_eq, if_pos rfl]
      exact ⟨rfl, hd, RT.rep hd h3⟩
    · rw [putT_cons_ne q, if_neg q]
      exact ⟨rfl, h2, RT.put hd h3⟩
  | [], _ :: _, h => h.elim
  | _ :: _, [], h => h.elim
theorem RT.rp {a : Addr} {o : Obj} {kvs : List (List Key × V)} {m : TM} (h : RT K S kvs m) (e : S a = some (.frz o (.dT kvs))) : Rp K S (.ref a) (dtD m) := by
  obtain ⟨vs, e1, e2, e3⟩ := h.to
  subst e1
  exact .dit e e2 e3
end
section
variable {X : Cx} {ρ ρ' ρ0 ρ1 ρ2 ρ3 : Env} {e a b c tg iter elt : Expr} {es rest ifs : List Expr} {x y z : VD} {xs ys : List VD} {pos apos cpos pp : Pos} {p q : Bool} {st : Stmt} {r body orelse : List Stmt} {k : Kn} {ds ds' : List D} {u u' d d' w : D} {n : Str} {R : FSpec} {m m' : TM}
/-! is a key there -/
def mHas (m : DM) (d : D) : Option Bool := (decInt d).bind fun i => some (mGet m i).isSome
def hasN (o : Option Bool) : Option Bool := o.bind fun p => some (!p)
theorem RK.has {K : PySem.W.Frag} {S : Hp} {kvs : List (Key × V)} {m : DM} (h : RK K S kvs m) (i : Int) : (valV kvs (.inl i)).isSome = (mGet m i).isSome := by
  rcases h.val i with ⟨v, d, e1, e2, _⟩ | ⟨e1, e2⟩ <;> rw [e1, e2] <;> rfl
theorem RT.has {K : PySem.W.Frag} {S : Hp} {kvs : List (List Key × V)} {m : TM} (h : RT K S kvs m) (i : List Key) : (valV kvs i).isSome = (tGet m i).isSome := by
  rcases h.val i with ⟨v, d, e1, e2, _⟩ | ⟨e1, e2⟩ <;> rw [e1, e2] <;> rfl
theorem td_ninOD {n : Nat} {mm : DM} (hu : X.A.units + 1 < cLine) (ha : ED X ρ a (.d d) ρ1) (hb : ED X ρ1 b (.loc n) ρ2) (hn : ρ2.ow[n]? = some (some (.dic (dKs mm) (dVs mm)))) (h0 : hasN (mHas mm d) = some p) (hm : behindInMarks .NotIn b = false := by rfl) : TD X ρ (.Compare a [.NotIn] [b] pos) p ρ2 := by
  obtain ⟨p0, h5, hp⟩ := bnd h0
  clear h0
  have h0 := h5
  clear h5
  cases hp
  obtain ⟨i, h2, h0⟩ := bnd h0
  cases h0
  have e2 := decInt_ok h2
  subst e2
  refine td_of (pt_cmp (pc_dnotin hu ha hb) hm) fun σ H Q ⟨fr, S, ad, A, kk⟩ => ⟨fr, S, ad, A, fun S1 H1 ad1 v st1 A1 r1 => ⟨fr, S1, ad1, A1, fun S2 H2 ad2 v2 st2 A2 r2 => ?_⟩⟩
  obtain ⟨l, kvs, f1, f0, f2, f3⟩ := own_dic A2 hn r2
  refine ⟨l, _, f1, .inl ⟨kvs, .inl i, .inl f2, r1.di, rfl⟩, _, rfl, ?_⟩
  rw [f3.has]
  exact kk S2 H2 ad2 (st1.trans st2) A2
/-! walking -/
/-! list and tuple of a range -/
theorem rgV_rp {K : PySem.W.Frag} {S : Hp} (a b : Int) : RpAll K S (rgV a b) (rngD a (b - a).toNat) := by
  unfold rgV rngD
  generalize (b - a).toNat = n
  have : ∀ l : List Nat, RpAll K S (l.map fun i => V.int (a + (i : Nat))) (l.map fun (i : Nat) => D.int (a + (i : Int))) := by
    intro l
    induction l with
    | nil => exact .nil
    | cons x l ih => exact .cons (.int _) ih
  exact this _
theorem dRange1_ok {ds : List D} (h : dRange1 d = some ds) : ∃ j : Int, d = .int j ∧ (-(2 ^ 62) ≤ j ∧ j < 2 ^ 62) ∧ ds = rngD 0 j.toNat := by
  unfold dRange1 at h; split at h
  · split at h
    · cases h; exact ⟨_, rfl, by assumption, rfl⟩
    · cases h
  · cases h
def dFew (ds : List D) : Option (List D) := if ds.length ≤ 100000 then some ds else none
theorem dFew_ok {ds ds' : List D} (h : dFew ds = some ds') : ds' = ds ∧ ds.length ≤ 100000 := by
  unfold dFew at h; split at h
  · cases h; exact ⟨rfl, by assumption⟩
  · cases h
theorem ed_listRg1 {p1 p2 : Pos} (hc : X.calm = true) (ha : ED X ρ a (.d d) ρ1) (h : dRange1 d = some ds) (hf : dFew ds = some ds') (hg : Gl X "list") (hm : X.mg "list" = none) (hg2 : Gl X "range") (hm2 : X.mg "range" = none) (na : starEach [a] X.env = (false, eval a X.env) :: starEach [] X.env := by rfl) (nc : starEach [.Call (.Name "range" p2) [a] [] pos] X.env = (false, eval (.Call (.Name "range" p2) [a] [] pos) X.env) :: starEach [] X.env := by rfl) : ED X ρ (.Call (.Name "list" p1) [.Call (.Name "range" p2) [a] [] pos] [] pp) (.d (.lst ds')) ρ1 := by
  obtain ⟨e9, hl⟩ := dFew_ok hf
  subst e9
  obtain ⟨j, e1, e2, e3⟩ := dRange1_ok h
  subst e1 e3
  rw [rngD_length] at hl
  refine ed_of (pe_listRg hc hg hm (prg_1 hg2 hm2 ha na) nc) fun σ H Q ⟨fr, S, ad, A, kk⟩ => ⟨fr, S, ad, A, fun S1 H1 ad1 v st1 A1 r1 => ?_⟩
  refine ⟨j, r1.di, ⟨by omega, by omega, by omega, by omega, by omega⟩, fun p hp => ?_⟩
  have eq : (j - 0).toNat = j.toNat := by rw [Int.sub_zero]
  have rp : ∀ S, RpAll X.K S (rgV 0 j) (rngD 0 j.toNat) := fun S => by rw [← eq]; exact rgV_rp _ _
  obtain ⟨A3, st3⟩ := A1.newS (o := .lst (rgV 0 j)) hp
  exact kk _ _ ad1 _ (st1.trans st3) A3 (.d (.lst (SqL.of upd_same) (rp _)))
end
end DL

namespace DL
open PySem PySem.Spec PyProof.Rows L2
/-! ### membership by equality -/
section
variable {X : Cx} {ρ ρ' ρ0 ρ1 ρ2 ρ3 : Env} {e a b c tg iter elt : Expr} {es rest ifs : List Expr} {x y z : VD} {xs ys : List VD} {pos apos cpos pp : Pos} {p q : Bool} {st : Stmt} {r body orelse : List Stmt} {k : Kn} {ds ds' : List D} {u u' d d' w : D} {n : Str} {R : FSpec}
/-! ### a field as a target among others -/
/-! ### several targets, objects of ours among the values -/
theorem sds_unT {vs : List Nat} {tgs : List Expr} {kt k2 : Nat} {pt pt2 : Pos} (hc : X.calm = true) (ha : AD X ρ es xs ρ1) (hz : xs.length ≤ sizeLine) (hg : GDs X vs ρ1 tgs xs ρ2) (h : SDs X ρ2 r k)
    (hn : (assignEach tgs X.env).length = xs.length) (hst : (assignEach tgs X.env).findIdx? (·.1) = none)
    (hs : swapsWithSole [.Tuple tgs kt pt] (.Tuple es k2 pt2) pos.line X.env = pure false) (hw : swappedStores [.Tuple tgs kt pt] (.Tuple es k2 pt2) X.env = pure none)
    (h1 : (assignEach [.Tuple tgs kt pt] X.env).map (·.2) = [assign (.Tuple tgs kt pt) X.env]) : SDs X ρ (.Assign [.Tuple tgs kt pt] (.Tuple es k2 pt2) pos :: r) k :=
  sds_cons (sd_of (ps_asg (pe_tup ha) (pg_tup hc hg hn hst) hs hw h1) fun Dn σ H ⟨fr, S, ad, A, kk⟩ => ⟨fr, S, ad, A, fun S1 H1 ad1 ws st1 A1 r1 => by
    have hl := r1.length
    refine ⟨by omega, fun p hp => ?_⟩
    obtain ⟨A2, st2⟩ := A1.newS (o := .tup ws) hp
    refine ⟨p, ws, rfl, SqT.of upd_same, by omega, fr, _, ad1, A2, r1.mono st2, fun σ' S' H' ad' st' A' _ _ => kk.nx ρ2 σ' S' H' ad' h A'⟩⟩)
end
end DL

namespace DL
open PySem PySem.Spec PyProof.Rows L2
/-! ### exceptions -/
/-- an exception: its class, its fields -/
structure XV where
  cls : Addr
  ns : List Str
  ds : List D
def IsX (K : PySem.W.Frag) (S H : Hp) (cls : Value) (d : Option Addr) (x : XV) : Prop := cls = .ref x.cls ∧
  ((x.ns = [] ∧ x.ds = [] ∧ d = none) ∨ ∃ dx vs, d = some dx ∧ x.ns.length = vs.length ∧ S dx = some (.xd (x.ns.zip vs)) ∧ RpAll K S vs x.ds)
abbrev XSpec := List VD → List OD → XV → List OD → Prop
def spX (K : PySem.W.Frag) (RX : XSpec) : Sp := fun vs H _ E => ∃ S M xs os x os', Ex S H ∧ RvAll K S M vs xs ∧ OwnA K S H M os ∧ M.Nodup ∧ RX xs os x os' ∧ (∀ o ∈ os, o.free) ∧
  ∀ S' H' cls d, Grow M S H S' H' → IsX K S' H' cls d x → OwnA K S' H' M os' → E cls d H'
/-- e raises x -/
def tEX (K : PySem.W.Frag) (ρ : Env) (x : XV) (ρ' : Env) (E : XK) : TE := fun σ H Q => ∃ fr S ad, Rel K fr ρ σ S H ad ∧ ∀ S' H' ad' cls d, Step S ad S' ad' → Rel K fr ρ' σ S' H' ad' → IsX K S' H' cls d x → E cls d H'
def EX (X : Cx) (E : XK) (ρ : Env) (e : Expr) (x : XV) (ρ' : Env) : Prop := PE X e (tEX X.K ρ x ρ' E)
/-- the context lets exceptions out to E -/
abbrev Lets (X : Cx) (E : XK) : Prop := Takes X (fun cls d _ H => E cls d H)
/-- statements raise x, P: the state then; or they end, N: the state then -/
def tSX (K : PySem.W.Frag) (ρ : Env) (x : XV) (P : Env → Prop) (N : Env → Prop) (E : XK) : TS := fun Dn σ H => ∃ fr S ad, Rel K fr ρ σ S H ad ∧ (∀ ρ' σ' S' H' ad' cls d, P ρ' → Rel K fr ρ' σ' S' H' ad' → IsX K S' H' cls d x → E cls d H') ∧ ∀ ρ' σ' S' H' ad', N ρ' → Rel K fr ρ' σ' S' H' ad' → Dn.nx σ' H'
def SX (X : Cx) (E : XK) (ρ : Env) (st : Stmt) (x : XV) (P N : Env → Prop) : Prop := PS X st (tSX X.K ρ x P N E)
def SXs (X : Cx) (E : XK) (ρ : Env) (sts : List Stmt) (x : XV) (P N : Env → Prop) : Prop := PSs X sts (tSX X.K ρ x P N E)
section
variable {K : PySem.W.Frag} {fr : Fr} {ρ : Env} {σ : L2.St} {S H : Hp} {ad : List Addr}
theorem Rel.callX {RX : XSpec} {ns : List Nat} {os os' : List OD} {xs ys : List VD} {vs : List V} {xx : XV} {Q : VK} {E : XK} (A : Rel K fr ρ σ S H ad) (hv : RvAll K S ad vs xs) (ht : TrAll ns xs ys) (hl : Lend ρ.ow ns os) (hr : RX ys os xx os') (hos : os'.length = os.length)
    (k : ∀ S' H' cls dd, Step S ad S' ad → Rel K fr { ρ with ow := setAll ρ.ow ns os' } σ S' H' ad → IsX K S' H' cls dd xx → E cls dd H') : spX K RX vs H Q E := by
  let M : List Addr := ns.map fun n => (ad[n]?).getD 0
  have adAt : ∀ (i n : Nat), ns[i]? = some n → ∃ l, ad[n]? = some l ∧ M[i]? = some l := fun i n e => by
    obtain ⟨o, h1, _⟩ := hl.at_ i n e
    obtain ⟨l, ho, e1, _⟩ := A.own n o h1
    refine ⟨l, e1, ?_⟩
    show (ns.map fun n => (ad[n]?).getD 0)[i]? = some l
    rw [List.getElem?_map, e]
    simp [e1]
  have hM : ∀ (i n : Nat), ns[i]? = some n → M[i]? = ad[n]? := fun i n e => by
    obtain ⟨l, e1, e2⟩ := adAt i n e
    rw [e1, e2]
  have lenM : M.length = ns.length := by show (ns.map _).length = _; simp
  have ofM : ∀ a, a ∈ M → ∃ i n : Nat, ns[i]? = some n ∧ ad[n]? = some a := fun a ha => by
    obtain ⟨i, hi⟩ := List.getElem?_of_mem ha
    have hlt := (List.getElem?_eq_some_iff.mp hi).1
    rw [lenM] at hlt
    have e : ns[i]? = some ns[i] := by simp [hlt]
    refine ⟨i, ns[i], e, ?_⟩
    rw [← hM i _ e]; exact hi
  have ndM : M.Nodup := by
    refine List.pairwise_iff_getElem.mpr fun i j hi hj hij heq => ?_
    rw [lenM] at hi hj
    have ei : ns[i]? = some ns[i] := by simp [hi]
    have ej : ns[j]? = some ns[j] := by simp [hj]
    obtain ⟨l, a1, a2⟩ := adAt i _ ei
    obtain ⟨l', b1, b2⟩ := adAt j _ ej
    have a3 := (List.getElem?_eq_some_iff.mp a2).2
    have b3 := (List.getElem?_eq_some_iff.mp b2).2
    have hll : l = l' := by rw [← a3, ← b3]; exact heq
    subst hll
    have h2 := nodup_ixA A.nd a1 b1
    have := (List.getElem_inj hl.nd (h₀ := hi) (h₁ := hj)).mp h2
    omega
  refine ⟨S, M, ys, os, xx, os', A.grow.sh, trAll_ok hM ht hv, ⟨lenM.trans hl.len, fun i o e => ?_⟩, ndM, hr, fun o ho => ?_, fun S' H' cls dd g ix oa => ?_⟩
  · have hlt := (List.getElem?_eq_some_iff.mp e).1
    rw [← hl.len] at hlt
    have en : ns[i]? = some ns[i] := by simp [hlt]
    obtain ⟨o', h1, h2, h3⟩ := hl.at_ i _ en
    rw [e] at h2; cases h2
    obtain ⟨l, ho, e1, e2, e3, e4, _⟩ := A.own _ o h1
    exact ⟨l, ho, (hM i _ en).trans e1, e2, e3, e4.free h3⟩
  · obtain ⟨i, hi⟩ := List.getElem?_of_mem ho
    have hlt := (List.getElem?_eq_some_iff.mp hi).1
    rw [← hl.len] at hlt
    obtain ⟨o', h1, h2, h3⟩ := hl.at_ i ns[i] (by simp [hlt])
    rw [hi] at h2; cases h2
    exact h3
  · have hst : Step S ad S' ad := ⟨g.s, [], by simp⟩
    have keepH : ∀ a o, H a = some o → a ∉ M → H' a = some o := g.h
    have live : ∀ a, H a ≠ none → H' a ≠ none := fun a ha => by
      by_cases hm : a ∈ M
      · obtain ⟨i, hi⟩ := List.getElem?_of_mem hm
        have hlt := (List.getElem?_eq_some_iff.mp hi).1
        rw [oa.len] at hlt
        obtain ⟨l, ho, e1, _, e3, _⟩ := oa.at_ i os'[i] (by simp [hlt])
        rw [hi] at e1; cases e1
        rw [e3]; simp
      · cases q : H a with
        | none => exact absurd q ha
        | some u => rw [keepH a u q hm]; simp
    refine k S' H' cls dd hst ⟨⟨A.grow.s.trans g.s, g.sh, fun a o e hm => ?_, fun a h1 h2 h3 => ?_⟩, fun i x e => ?_, fun n o e => ?_, A.mm, A.nd, A.len, by rw [A.al]; exact (setAll_length _ _ _).symm, fun n hn => ?_, fun l hl' => live l (A.lv l hl')⟩ ix
    · refine keepH a o (A.grow.h a o e hm) fun ha => ?_
      obtain ⟨i, n, e1, e2⟩ := ofM a ha
      obtain ⟨u, h1, _⟩ := hl.at_ i n e1
      by_cases hnm : ρ.m ≤ n
      · obtain ⟨l, ho, f1, f2, f3, f4, f5⟩ := A.own n u h1
        rw [e2] at f1; cases f1
        rw [f5 hnm] at e; cases e
      · exact hm (A.inM e2 (by omega))
    · exact g.n a (A.grow.n a h1 h2 h3) (A.old h2) (A.ntup h2 h3)
    · obtain ⟨w, e1, e2⟩ := A.slots i x e
      exact ⟨w, e1, e2.mono hst⟩
    · by_cases hn : n ∈ ns
      · obtain ⟨i, hi⟩ := List.getElem?_of_mem hn
        have hlt := (List.getElem?_eq_some_iff.mp hi).1
        obtain ⟨u, h1, h2, h3⟩ := hl.at_ i n hi
        have hlt2 := (List.getElem?_eq_some_iff.mp h1).1
        have hio : i < os'.length := by rw [hos, ← hl.len]; exact hlt
        have e' := setAll_in (ow := ρ.ow) (os := os') hl.nd hi (show os'[i]? = some os'[i] by simp [hio]) hlt2
        have eo : (some (some o) : Option (Option OD)) = some (some os'[i]) := e.symm.trans e'
        cases eo
        obtain ⟨l, ho, f1, f2, f3, f4⟩ := oa.at_ i os'[i] (by simp [hio])
        obtain ⟨l0, ho0, g1, g2, g3, g4, g5⟩ := A.own n u h1
        rw [hM i n hi, g1] at f1; cases f1
        have f4' : OR K S' ad l ho os'[i] := by
          cases ho <;> cases q : os'[i] <;> rw [q] at f4 <;> first | exact f4.elim | exact f4 | skip
          obtain ⟨h0, vs', h1', h2', h3'⟩ := f4
          refine ⟨h0, vs', h1', h2', ?_⟩
          clear h1' h2' q
          induction h3' with
          | nil => exact .nil
          | cons r t ih => 
            refine .cons ?_ ih
            cases r with
            | d r => exact .d r
            | loc z => simp at z
        exact ⟨_, ho, g1, f2, f3, f4', g5⟩
      · have e' : ρ.ow[n]? = some (some o) := by rw [← setAll_out hn]; exact e
        obtain ⟨l, ho, e1, e2, e3, e4, e5⟩ := A.own n o e'
        have hlm : l ∉ M := fun z => by
          obtain ⟨i, n', f1, f2⟩ := ofM l z
          have := nodup_ixA A.nd e1 f2
          subst this
          exact hn (List.mem_of_getElem? f1)
        exact ⟨l, ho, e1, g.n l e2 (by rw [e3]; simp) (fun xs z => by rw [e3] at z; cases z; exact e4.ntup), keepH l ho e3 hlm, e4.mono hst, e5⟩
    · obtain ⟨o, e⟩ := A.ml n hn
      by_cases hns : n ∈ ns
      · obtain ⟨i, hi⟩ := List.getElem?_of_mem hns
        have hlt := (List.getElem?_eq_some_iff.mp hi).1
        have hio : i < os'.length := by rw [hos, ← hl.len]; exact hlt
        exact ⟨_, setAll_in hl.nd hi (show os'[i]? = some os'[i] by simp [hio]) (List.getElem?_eq_some_iff.mp e).1⟩
      · exact ⟨o, by show (setAll ρ.ow ns os')[n]? = _; rw [setAll_out hns]; exact e⟩
end
section
variable {X : Cx} {E : XK} {ρ ρ' ρ0 ρ1 ρ2 ρ3 : Env} {e a b c tg iter elt : Expr} {es rest ifs : List Expr} {v y z : VD} {xs ys : List VD} {pos apos cpos pp : Pos} {p q : Bool} {st : Stmt} {r body orelse : List Stmt} {k : Kn} {ds ds' : List D} {u u' d d' w : D} {n m : Str} {R : FSpec} {x : XV} {P N : Env → Prop}
theorem ps_of_one {t : TS} (h : PSs X [st] t) : PS X st t := by
  refine ⟨fun pins s σ H Dn I hq => ?_⟩
  have h1 := h.run pins s σ H Dn I hq
  intro Γ p0 hΓ
  have h2 := h1 Γ p0 hΓ
  rw [execs_cons] at h2
  rw [Sem.wp_bind'] at h2
  refine Sem.wp_mono _ _ _ (fun f p1 s1 hf => ?_) (fun _ _ _ z => z) _ _ h2
  cases f with
  | next => exact hf
  | ret u => exact hf
  | brk => exact hf
  | cont => exact hf
/-- a statement that ends in ρ1 -/
theorem sx_step (ρ1 : Env) (h : SDs X ρ [st] { nx := fun ρ' => ρ' = ρ1, rt := fun _ _ => False }) (hr : SXs X E ρ1 r x P N) : SXs X E ρ (st :: r) x P N := by
  refine ⟨fun pins s σ H Dn I ⟨fr, S, ad, A, kk, kn⟩ => ?_⟩
  refine (pss_cons (ps_of_one h) hr).run pins s σ H Dn I ?_
  refine ⟨fr, S, ad, A, ⟨fun ρ' σ' S' H' ad' e A' => ?_, fun _ _ _ _ _ _ _ z => z.elim, fun _ _ _ _ _ z => z.elim, fun _ _ _ _ _ z => z.elim, fun _ _ _ _ _ _ _ z => z.elim⟩⟩
  subst e
  exact ⟨fr, S', ad', A', kk, kn⟩
/-- the rest is never reached -/
theorem sx_end (h : SX X E ρ st x P (fun _ => False)) : SXs X E ρ (st :: r) x P N := by
  refine ⟨fun pins s σ H Dn I ⟨fr, S, ad, A, kk, kn⟩ => (pss_cons h pss_never).run pins s σ H Dn I ?_⟩
  exact ⟨fr, S, ad, A, kk, fun _ _ _ _ _ z => z.elim⟩
theorem sx_nil (h : N ρ) : SXs X E ρ [] x P N := ⟨fun pins s σ H Dn I ⟨fr, S, ad, A, kk, kn⟩ => pss_nil.run pins s σ H Dn I (kn ρ σ S H ad h A)⟩
theorem sx_eq (h : SXs X E ρ1 r x P N) (e : ρ = ρ1) : SXs X E ρ r x P N := e ▸ h
theorem sx_any {B : Env → Prop} (h : ∀ ρ, B ρ → SXs X E ρ r x P N) : PSs X r (fun Dn σ H => ∃ ρ, B ρ ∧ tSX X.K ρ x P N E Dn σ H) := ⟨fun pins s σ H Dn I ⟨ρ, hb, hq⟩ => (h ρ hb).run pins s σ H Dn I hq⟩
theorem sx_if (hc : TD X ρ c p ρ1) (ha : p = true → SXs X E ρ1 body x P (fun ρ' => SXs X E ρ' r x P N)) (hb : p = false → SXs X E ρ1 orelse x P (fun ρ' => SXs X E ρ' r x P N)) : SXs X E ρ (.If c body orelse pos :: r) x P N := by
  refine ⟨fun pins s σ H Dn I ⟨fr, S, ad, A, kk, kn⟩ => ?_⟩
  refine (pss_cons (ps_if hc (sx_any (B := fun ρ' => p = true ∧ ρ' = ρ1) fun ρ' h => by rw [h.2]; exact ha h.1) (sx_any (B := fun ρ' => p = false ∧ ρ' = ρ1) fun ρ' h => by rw [h.2]; exact hb h.1)) (sx_any (B := fun ρ' => SXs X E ρ' r x P N) fun _ h => h)).run pins s σ H Dn I ?_
  refine ⟨fr, S, ad, A, fun S1 H1 ad1 st A1 => ?_⟩
  have fin : ∀ ρ' σ' S' H' ad', SXs X E ρ' r x P N → Rel X.K fr ρ' σ' S' H' ad' → ∃ ρ, SXs X E ρ r x P N ∧ tSX X.K ρ x P N E Dn σ' H' := fun ρ' σ' S' H' ad' h A' => ⟨ρ', h, fr, S', ad', A', kk, kn⟩
  cases p with
  | true => exact iteT ⟨ρ1, ⟨rfl, rfl⟩, fr, S1, ad1, A1, kk, fin⟩
  | false => exact iteF ⟨ρ1, ⟨rfl, rfl⟩, fr, S1, ad1, A1, kk, fin⟩
/-! statements whose expression raises -/
theorem sx_expr (he : EX X E ρ e x ρ1) (hp : P ρ1) (hs : swapsWith e none pos.line X.env = pure false := by rfl) : SXs X E ρ (.Expr e pos :: r) x P N :=
  sx_end ⟨fun pins s σ H Dn I ⟨fr, S, ad, A, kk, kn⟩ => (ps_expr he hs).run pins s σ H Dn I ⟨fr, S, ad, A, fun S' H' ad' cls d st A' ix => kk ρ1 σ S' H' ad' cls d hp A' ix⟩⟩
/-! expressions with a part that raises -/
theorem ex_of {t : TE} (h : PE X e t) (q : ∀ σ H Q, tEX X.K ρ x ρ' E σ H Q → t σ H Q) : EX X E ρ e x ρ' := ⟨fun pins s σ H Q I hq => h.run pins s σ H Q I (q σ H Q hq)⟩
/-! calls -/
theorem pe_callRX {k : Nat} {f : Addr} {x : Str} {sp : Sp} {t : TA} {p pos : Pos} (tk : Lets X E) (F : FnR X.prog X.w X.K X.mg X.base (L2.CX X.prog X.w) k f sp) (hr : Room k X.A) (hg : Gl X x) (hm : X.mg x = some (.ref f)) (hk : PySem.W.keepIn X.K (.ref f) = true)
    (ha : PA X (e :: es) t) (hdb : (x == ("__debug__" : Str)) = false) (he : starEach (e :: es) X.env = (false, eval e X.env) :: starEach es X.env) (hpl : (backTo pos (starEach es X.env)).any (·.1) = false) :
    PE X (.Call (.Name x p) (e :: es) [] pos) (fun σ H Q => t σ H fun vs H1 => sp vs H1 Q E) := by
  refine ⟨fun pins s σ H Q I h => ?_⟩
  refine wpAny_Call_Name_kw (ld_glob I hg hm ?_ hdb)
  refine PySem.W.callWith_K (h₀ := X.base) I.ok.mod.kin hk (thn (ha.run pos pins s σ H _ I h) fun us s1 ⟨vs, H1, I1, r, q⟩ => ⟨I1.kIn, ?_⟩) he hpl
  exact wpAny_call (run_fnR (E := E) F hr (passes_call tk fun _ _ _ _ h => h) I1 r q)
/-- a def of the module that raises -/
structure XGs (P : Program) (w : World) (K : PySem.W.Frag) (mg : Str → Option Value) (base : Heap) (A : Around) (x : Str) (R : XSpec) : Prop where
  ex : ∃ f j, FnR P w K mg base (L2.CX P w) j f (spX K R) ∧ Room j A ∧ mg x = some (.ref f) ∧ PySem.W.keepIn K (.ref f) = true
abbrev XG (X : Cx) : Str → XSpec → Prop := XGs X.prog X.w X.K X.mg X.base X.A
structure XMs (P : Program) (w : World) (K : PySem.W.Frag) (mg : Str → Option Value) (base : Heap) (A : Around) (C : Addr) (m : Str) (R : XSpec) : Prop where
  cl : Cls K C
  ex : ∃ f j, FnR P w K mg base (L2.CX P w) j f (spX K R) ∧ Room j A ∧ Meth K C m f
abbrev XM (X : Cx) : Addr → Str → XSpec → Prop := XMs X.prog X.w X.K X.mg X.base X.A
variable {RX : XSpec}
theorem ex_callL {ns : List Nat} {os os' : List OD} (tk : Lets X E) (C : XG X n RX) (ha : AD X ρ (e :: es) xs ρ1) (ht : TrAll ns xs ys) (hl : Lend ρ1.ow ns os) (hR : RX ys os x os') (hos : os'.length = os.length) (hg : Gl X n) (hdb : (n == ("__debug__" : Str)) = false := by decide)
    (he : starEach (e :: es) X.env = (false, eval e X.env) :: starEach es X.env := by rfl) (hpl : (backTo pos (starEach es X.env)).any (·.1) = false := by rfl) :
    EX X E ρ (.Call (.Name n pp) (e :: es) [] pos) x { ρ1 with ow := setAll ρ1.ow ns os' } := by
  obtain ⟨f, j, F, hr, hm, hk⟩ := C.ex
  refine ex_of (pe_callRX tk F hr hg hm hk ha hdb he hpl) fun σ H Q ⟨fr, S, ad, A, kk⟩ => ⟨fr, S, ad, A, fun S1 H1 ad1 vs st1 A1 r1 => ?_⟩
  exact A1.callX r1 ht hl hR hos fun S' H' cls dd st' A' ix => kk S' H' ad1 cls dd (st1.trans st') A' ix
theorem ex_call (tk : Lets X E) (C : XG X n RX) (ha : AD X ρ (e :: es) xs ρ1) (hd : AllD xs ds) (hR : RX xs [] x []) (hg : Gl X n) (hdb : (n == ("__debug__" : Str)) = false := by decide)
    (he : starEach (e :: es) X.env = (false, eval e X.env) :: starEach es X.env := by rfl) (hpl : (backTo pos (starEach es X.env)).any (·.1) = false := by rfl) :
    EX X E ρ (.Call (.Name n pp) (e :: es) [] pos) x ρ1 := ex_callL (ns := []) (os' := []) tk C ha hd.tr Lend.nil hR rfl hg hdb he hpl
/-- o.m(e, ..) of data -/
theorem ex_meth {C : Addr} {ns : List Str} {dt : List D} {pl : Sem Bool} (tk : Lets X E) (F : XM X C m RX) (ho : ED X ρ a (.d (.ins C ns ds)) ρ1) (ha : AD X ρ1 (e :: es) xs ρ2) (hd : AllD xs dt) (hR : RX (.d (.ins C ns ds) :: xs) [] x []) (hm : m ∉ ns)
    (hst : starEach (e :: es) X.env = (false, eval e X.env) :: starEach es X.env := by rfl) (hpl : (backTo pos (starEach es X.env)).any (·.1) = false := by rfl)
    (ht : eval (.Call (.Attribute a m apos) (e :: es) [] pos) X.env = (do
      let ov ← eval a X.env
      standAt apos.atName
      let (f, first) ← holding [ov] (getMethod ov m pl)
      callWith pos f first (backTo pos (starEach (e :: es) X.env)) (backToKw pos (keywordEach [] X.env))) := by rfl) :
    EX X E ρ (.Call (.Attribute a m apos) (e :: es) [] pos) x ρ2 := by
  obtain ⟨f, j, G, hr, hM⟩ := F.ex
  refine ex_of (pe_methR (E := E) (pl := pl) ho F.cl hM G hr (passes_call tk fun _ _ _ _ h => h) ha hst hpl ht) fun σ H Q ⟨fr, S, ad, A, kk⟩ => ⟨fr, S, ad, A, fun S1 H1 ad1 v st1 A1 r1 => ?_⟩
  obtain ⟨l, dx, vs, e1, e2, e3, e4⟩ := r1.dd.ins_inv
  refine ⟨l, dx, _, e1, A1.grow.sh _ _ e2, lookup_zip_none hm, fr, S1, ad1, A1, fun S2 H2 ad2 ws st2 A2 r2 => ?_⟩
  exact A2.callX (.cons (r1.mono st2) r2) hd.tr1 Lend.nil hR rfl fun S' H' cls dd st' A' ix => kk S' H' ad2 cls dd ((st1.trans st2).trans st') A' ix
end
end DL

namespace DL
open PySem PySem.Spec PyProof.Rows L2 LamX
/-! ### closures -/
/-- the function object that a lambda lays at f -/
def LamO (f : Addr) (q : Str) (ps : Arguments) (b : Expr) (sc : Scope) (cl : List (Str × Addr)) (dV doc pm : Value) (cc : Addr) (ct : Value) : HO :=
  .ext fun h => h.get? f = some (PySem.W.kdv_obj "<lambda>" q ps (.expr b) sc cl dV doc pm cc ct)
/-- the defaults: none, or a tuple that stands -/
def DfV (S : Hp) (dV : Value) (ws : List V) : Prop := (ws = [] ∧ dV = .none) ∨ (ws ≠ [] ∧ ∃ T, dV = .ref T ∧ S T = some (.tup ws))
def LamAt (q : Str) (ps : Arguments) (b : Expr) (sc : Scope) (cl : List (Str × Addr)) (ws : List V) (S : Hp) (f : Addr) : Prop :=
  ∃ dV doc pm cc ct, S f = some (LamO f q ps b sc cl dV doc pm cc ct) ∧ S cc = some (CodeO cc q) ∧ DfV S dV ws
theorem LamAt.mono {S S' : Hp} {q : Str} {ps : Arguments} {b : Expr} {sc : Scope} {cl : List (Str × Addr)} {ws : List V} {f : Addr} (e : Ex S S') (h : LamAt q ps b sc cl ws S f) : LamAt q ps b sc cl ws S' f := by
  obtain ⟨dV, doc, pm, cc, ct, h1, h2, h3⟩ := h
  refine ⟨dV, doc, pm, cc, ct, e _ _ h1, e _ _ h2, ?_⟩
  rcases h3 with h3 | ⟨h3, T, h4, h5⟩
  · exact .inl h3
  · exact .inr ⟨h3, T, h4, e _ _ h5⟩
/-- of the lambda of the text in the frame of X -/
abbrev lamP (X : Cx) (ps : Arguments) (b : Expr) (sc : Scope) (ws : List V) : Hp → Addr → Prop := LamAt (X.env.qual ++ "<lambda>") ps b sc (cloFrom X.env.cells sc.names []) ws
theorem upd_comm {H : Hp} {a b : Addr} {o u : HO} (h : a ≠ b) : upd (upd H a o) b u = upd (upd H b u) a o := by
  funext x
  by_cases h1 : x = a
  · subst h1; rw [upd_ne h, upd_same, upd_same]
  · by_cases h2 : x = b
    · subst h2; rw [upd_same, upd_ne h1, upd_same]
    · rw [upd_ne h2, upd_ne h1, upd_ne h1, upd_ne h2]
section
variable {X : Cx} {ρ : Env} {fr : Fr} {σ : L2.St} {S H : Hp} {ad : List Addr} {pins : List (Addr × Obj)} {s : Shared} {n : Nat} {P c : Addr} {q : Str}
/-- the closure itself is laid -/
theorem lam_lay {h' : Heap} {tk : Nat} {ps : Arguments} {b : Expr} {sc : Scope} {cl : List (Str × Addr)} {dV doc pm ct : Value} {cc : Addr} {ws : List V} (A : Rel X.K fr ρ σ S H ad) (I : Inv X pins σ H { s with heap := h', toks := tk })
    (hc : S cc = some (CodeO cc q)) (hd : DfV S dV ws) {Q : Value → Shared → Prop}
    (h : ∀ S1 H1 s1 f, Inv X pins σ H1 s1 → Step S ad S1 ad → Rel X.K fr ρ σ S1 H1 ad → LamAt q ps b sc cl ws S1 f → Q (.ref f) s1) :
    Q (.ref h'.objs.size) { s with heap := h'.push (PySem.W.kdv_obj "<lambda>" q ps (.expr b) sc cl dV doc pm cc ct), toks := tk } := by
  have nF : H h'.objs.size = none := I.hok.fresh (Nat.le_refl _)
  have at_ : (h'.push (PySem.W.kdv_obj "<lambda>" q ps (.expr b) sc cl dV doc pm cc ct)).get? h'.objs.size = some (PySem.W.kdv_obj "<lambda>" q ps (.expr b) sc cl dV doc pm cc ct) := Heap.get?_push_size _ rfl
  have I1 : Inv X pins σ (upd H h'.objs.size (LamO h'.objs.size q ps b sc cl dV doc pm cc ct)) { s with heap := h'.push (PySem.W.kdv_obj "<lambda>" q ps (.expr b) sc cl dV doc pm cc ct), toks := tk } :=
    I.laid (t' := tk) (fun _ _ e => Heap.get?_push_of_some _ e) (Nat.le_refl _) ⟨at_, ⟨_, at_⟩, fun _ _ z st => st _ z⟩
  obtain ⟨A1, st⟩ := A.newS (o := LamO h'.objs.size q ps b sc cl dV doc pm cc ct) nF
  refine h _ _ _ _ I1 st A1 ⟨dV, doc, pm, cc, ct, upd_same, st.s _ _ hc, ?_⟩
  rcases hd with hd | ⟨h1, T, h2, h3⟩
  · exact .inl hd
  · exact .inr ⟨h1, T, h2, st.s _ _ h3⟩
/-- the code object is new, or it stands in the table -/
theorem lam_tail {ps : Arguments} {b : Expr} {sc : Scope} {pos : Pos} {l0 : Nat} {dV : Value} {ws : List V} {Q : Value → Shared → Prop} {E : Value → Shared → Prop} (A : Rel X.K fr ρ σ S H ad) (I : Inv X pins σ H s) (hn : ρ.ow[n]? = some (some (.tb P q)))
    (TB : TabB X.base X.mg c P) (hcode : X.env.code = .ref c) (hfree : ∀ y ∈ sc.names, y.2 = .free → ∃ z, X.env.cells.lookup y.1 = some z) (hd : DfV S dV ws)
    (h : ∀ S1 H1 s1 f, Inv X pins σ H1 s1 → Step S ad S1 ad → Rel X.K fr ρ σ S1 H1 ad → LamAt q ps b sc (cloFrom X.env.cells sc.names []) ws S1 f → Q (.ref f) s1) :
    wpAny (model X.prog X.w) X.A (makeTail "<lambda>" q ps (.expr b) sc X.env dV .none none pos l0) Q E s := by
  obtain ⟨l, ho, e1, e2, e3, e4, e5⟩ := A.own n _ hn
  cases ho <;> first | exact e4.elim | skip
  rename_i tv
  obtain ⟨rfl, ht, ha⟩ := e4
  have bl : s.heap.BuiltinsAt X.mg l := TB.bm.keeps I.bk
  have hl : s.heap.get? l = some { cls := .none, data := .fields tv } := I.hok l _ e3
  cases hc : codeAmong pos tv.toList with
  | some cv =>
    obtain ⟨cc, rfl, hS⟩ := ha pos cv hc
    refine PySem.W.kdv_makeTailHit (mg := X.mg) (c := c) (P := l) (ps := tv) (closure_ok hfree) I.ok.glob (I.mod.glob.keeps I.bk) hcode (TB.code.keeps I.bk) hl ht hc bl fun ct doc h' tk hx hsz => ?_
    exact lam_lay A (I.kept (t' := tk) hx) hS hd h
  | none =>
    refine PySem.W.kdv_makeTail (mg := X.mg) (c := c) (P := l) (ps := tv) (closure_ok hfree) I.ok.glob (I.mod.glob.keeps I.bk) hcode (TB.code.keeps I.bk) hl ht hc TB.gP bl fun cc ct doc h' tk hx hge hlt hrec htb => ?_
    obtain ⟨cc', oc, vs, t, ec, hoc, hdc, hvc⟩ := hrec
    cases ec
    have nC : H cc = none := I.hok.fresh hge
    have ne : cc ≠ l := fun z => by rw [z, e3] at nC; cases nC
    have I1 := inv_table (q := q) (t' := tk) (more := #[rawInt pos.line, rawInt pos.col, .ref cc]) (h' := h') I e3 hx htb hge ⟨oc, vs, t, hoc, hdc, hvc⟩
    obtain ⟨A1, st1⟩ := A.newS (p := cc) (o := CodeO cc q) nC
    have tl : (tv ++ #[rawInt pos.line, rawInt pos.col, .ref cc]).toList = tv.toList ++ [rawInt pos.line, rawInt pos.col, .ref cc] := by simp
    have tb : TbOk (upd S cc (CodeO cc q)) (tv ++ #[rawInt pos.line, rawInt pos.col, .ref cc]) q := by
      refine ⟨by rw [tl]; exact PySem.TriplesOk_snoc _ _ _ _ ht, fun p' cv z => ?_⟩
      rw [tl] at z
      rcases among_app _ ht z with z | z
      · obtain ⟨c0, f1, f2⟩ := ha p' cv z
        exact ⟨c0, f1, st1.s _ _ f2⟩
      · exact ⟨cc, z, upd_same⟩
    have A2 := A1.setO (n := n) (o' := .tb l q) (ho := .tbl (tv ++ #[rawInt pos.line, rawInt pos.col, .ref cc])) hn e1 ⟨rfl, tb⟩
    have ew : ρ.ow.set n (some (.tb l q)) = ρ.ow := by
      obtain ⟨h1, h2⟩ := List.getElem?_eq_some_iff.mp hn
      rw [← h2, List.set_getElem_self]
    rw [ew, upd_comm ne] at A2
    have hd' : DfV (upd S cc (CodeO cc q)) dV ws := by
      rcases hd with hd | ⟨h1, T, h2, h3⟩
      · exact .inl hd
      · exact .inr ⟨h1, T, h2, st1.s _ _ h3⟩
    exact lam_lay A2 I1 upd_same hd' fun S1 H1 s1 f J st A3 la => h S1 H1 s1 f J (st1.trans st) A3 la
end
section
variable {X : Cx} {ρ : Env} {n i : Nat} {P c : Addr} {ps : Arguments} {b : Expr} {sc : Scope} {pos dp : Pos} {j : Nat} {d0 : Int}
theorem Rp.lamI {K : PySem.W.Frag} {S : Hp} {q : Str} {cl : List (Str × Addr)} {ws : List V} {f : Addr} (h : LamAt q ps b sc cl ws S f) : Rp K S (.ref f) (.lam i (LamAt q ps b sc cl ws)) := .lam i fun _ e => h.mono e
/-- lambda: b -/
theorem ed_lam0 (hn : ρ.ow[n]? = some (some (.tb P (X.env.qual ++ "<lambda>")))) (TB : TabB X.base X.mg c P) (hcode : X.env.code = .ref c) (hfree : X.Ok → ∀ y ∈ sc.names, y.2 = .free → ∃ z, X.env.cells.lookup y.1 = some z) (hdef : defaultsOf ps X.env = ([], [])) :
    ED X ρ (.Lambda ps b sc pos) (.d (.lam i (lamP X ps b sc []))) ρ := by
  refine ⟨fun pins s σ H Q I ⟨fr, S, ad, A, k⟩ => ?_⟩
  refine PySem.W.kla_eval hdef ?_
  rw [makeFunction_eq]
  simp only [List.zip_nil_right, List.filterMap_nil, List.isEmpty_nil, if_true, pure_bind]
  refine lam_tail A I hn TB hcode (hfree I.ok) (.inl ⟨rfl, rfl⟩) fun S1 H1 s1 f J st A1 la => ?_
  exact ⟨.ref f, H1, J, rfl, k S1 H1 ad _ st A1 (.d (.lamI la))⟩
end
end DL

namespace DL
open PySem PySem.Spec PyProof.Rows L2 LamX
/-! ### a closure is called -/
/-- a lambda's names: captured ones, globals, parameters that the maker has no name for -/
structure LamS3 (N : List Str) (sc scope : Scope) : Prop where
  kind : scope.kind = .function
  co : scope.isCoroutine = false
  gen : scope.isGenerator = false
  cell : ∀ y ∈ scope.names, y.2 ≠ .cell
  loc : ∀ y ∈ scope.names, y.2 = .local → y.1 ∉ N
  free : ∀ y ∈ scope.names, y.2 = .free → sc.names.lookup y.1 = some .cell ∨ sc.names.lookup y.1 = some .free
def lamB3 (N : List Str) (sc scope : Scope) : Bool :=
  decide (scope.kind = .function) && (!scope.isCoroutine && (!scope.isGenerator && (scope.names.all (fun y => decide (y.2 ≠ .cell)) && (scope.names.all (fun y => decide (y.2 ≠ .local) || !N.contains y.1) && scope.names.all (fun y => decide (y.2 ≠ .free) || (decide (sc.names.lookup y.1 = some .cell) || decide (sc.names.lookup y.1 = some .free)))))))
theorem lamS3_by {N : List Str} {sc scope : Scope} (h : lamB3 N sc scope = true) : LamS3 N sc scope := by
  unfold lamB3 at h
  simp only [Bool.and_eq_true, Bool.or_eq_true, Bool.not_eq_true', decide_eq_true_eq, List.all_eq_true] at h
  obtain ⟨h1, h2, h3, h4, h5, h6⟩ := h
  refine ⟨h1, h2, h3, h4, fun y hy e => ?_, fun y hy e => ?_⟩
  · rcases h5 y hy with z | z
    · exact absurd e z
    · intro hm
      rw [List.contains_iff_mem.mpr hm] at z; cases z
  · rcases h6 y hy with z | z
    · exact absurd e z
    · exact z
theorem LamS3.has {X : Cx} {scope : Scope} (L : LamS3 X.N X.env.scope scope) (ok : X.Ok) : ∀ y ∈ scope.names, y.2 = .free → ∃ c, X.env.cells.lookup y.1 = some c := fun y hy e => ok.has _ (L.free y hy e)
section
variable {X : Cx} {pins : List (Addr × Obj)} {σ : L2.St} {H HZ : Hp} {s s1 : Shared} {A : Around} {outer : List PySem.Env} {E : XK} {scope : Scope} {f cc : Addr} {h1 : Heap} {tk : Nat} {m : Str → Option Value}
/-- what the closure's list of cells tells -/
theorem clo_look (L : LamS3 X.N X.env.scope scope) (ok : X.Ok) {y : Str} {c : Addr} (e : (cloFrom X.env.cells scope.names []).lookup y = some c) : X.env.cells.lookup y = some c := by
  rcases cloFrom_mem (PySem.mem_of_lookup e) with hm | ⟨hy, hc⟩
  · cases hm
  · obtain ⟨c1, h1⟩ := L.has ok _ hy rfl
    have h1 : X.env.cells.lookup y = some c1 := h1
    rw [hc, h1]; rfl
theorem clo_get (L : LamS3 X.N X.env.scope scope) (ok : X.Ok) {y : Str} (e : scope.names.lookup y = some .free) : ∃ c, (cloFrom X.env.cells scope.names []).lookup y = some c ∧ X.env.cells.lookup y = some c := by
  obtain ⟨c, h⟩ := mem_lookup (cloFrom_has (cells := X.env.cells) (acc := []) (PySem.mem_of_lookup e))
  exact ⟨c, h, clo_look L ok h⟩
/-- the closure's frame stands: the slots are the maker's -/
theorem lam_in (I : Inv X pins σ H s) (L : LamS3 X.N X.env.scope scope) (e0 : Env0 X.prog X.w X.K X.mg X.base A outer s1 HZ) (hd : A.handled = none) {ex : List Addr} (un : Un (frs X.stack) ex H HZ s.heap s1.heap) (hex : ∀ y c, X.env.cells.lookup y = some c → c ∉ ex)
    (hns : h1.Ns s1.heap.objs.size m) (kp : ∀ b o, s1.heap.get? b = some o → h1.get? b = some o) : Inv (lamCx X A outer s1 HZ E scope f cc) [] σ HZ { s1 with heap := h1, toks := tk } := by
  have cellK : ∀ {y : Str} {c : Addr} {v : Option Value}, X.env.cells.lookup y = some c → s.heap.IsCell c v → h1.IsCell c v := fun {y c v} e ⟨o, ho, hdat⟩ => by
    obtain ⟨sl, q⟩ := un.any ho (I.freeC y c e) (hex y c e)
    exact ⟨_, kp _ _ q, hdat⟩
  have nex : ∀ b : Addr, ¬ b ∈ (lamCx X A outer s1 HZ E scope f cc).ex := fun b z => by
    have z : b ∈ ([] : List Addr) := z
    cases z
  have ok : (lamCx X A outer s1 HZ E scope f cc).Ok := {
    mod := e0.mod
    kind := L.kind
    glob := rfl
    blt := rfl
    above := Nat.le_refl _
    inj := fun y z c h1 h2 => I.ok.inj y z c (clo_look L I.ok h1) (clo_look L I.ok h2)
    has := fun y hy => by
      have hy : scope.names.lookup y = some .cell ∨ scope.names.lookup y = some .free := hy
      rcases hy with hy | hy
      · exact absurd rfl (L.cell _ (PySem.mem_of_lookup hy))
      · obtain ⟨c, h, _⟩ := clo_get L I.ok hy
        exact ⟨c, h⟩
    cab := fun y c z _ => by
      have z : false = true := z
      cases z
    hd := fun _ => hd
    frames := Around.frames_deeper e0.frames
    stk := .inr ⟨rfl, rfl⟩
    exf := fun b z => absurd z (nex b)
    bs := e0.bs
    bsz := e0.bsz
    noex := fun b _ _ => nex b
    exfs := fun b z => absurd z (nex b)
    funs := e0.funs
    frf := e0.frf }
  refine { ok := ok, os := rfl, bare := e0.bare, base := Un.kept kp, loc := ⟨m, hns, fun i y v e1 e2 e3 => ?_⟩, cell := fun y c e => ?_, free := e0.hok.fresh (Nat.le_refl _), freeC := fun y c e => ?_, pin := fun p hp => ?_, hok := e0.hok.kept kp, len := I.len }
  · have e1 : X.N[i]? = some y := e1
    have e3 : scope.names.lookup y = some .local ∨ scope.names.lookup y = some .cell ∨ scope.names.lookup y = some .free := e3
    rcases e3 with k | k | k
    · exact absurd (List.mem_of_getElem? e1) (L.loc _ (PySem.mem_of_lookup k) rfl)
    · exact absurd rfl (L.cell _ (PySem.mem_of_lookup k))
    · obtain ⟨m0, _, hl⟩ := I.loc
      have hk := L.free _ (PySem.mem_of_lookup k) rfl
      obtain ⟨u, r, q⟩ := hl i y v e1 e2 (.inr hk)
      obtain ⟨c, hc, hc'⟩ := clo_get L I.ok k
      refine ⟨u, r, .inr ⟨.inr k, c, hc, ?_⟩⟩
      rcases q with ⟨kl, _⟩ | ⟨_, c', e', z⟩
      · have kl : X.env.scope.names.lookup y = some .local := kl
        rcases hk with hk | hk <;> (have hk : X.env.scope.names.lookup y = _ := hk; rw [hk] at kl; cases kl)
      · rw [hc'] at e'; cases e'
        exact cellK hc' z
  · have e := clo_look L I.ok e
    obtain ⟨v, z⟩ := I.cell y c e
    exact ⟨v, cellK e z⟩
  · have e := clo_look L I.ok e
    obtain ⟨v, o, ho, _⟩ := I.cell y c e
    exact un.free c o ho (I.freeC y c e) (hex y c e)
  · have hp : p ∈ ([] : List (Addr × Obj)) ++ [] := hp
    simp at hp
theorem lam_lets : Lets (lamCx X A outer s1 HZ E scope f cc) E := takes_of rfl rfl rfl rfl
end
/-! ### how a lambda binds nothing, or its default -/
/-- the lambda's parameters take no argument -/
inductive LamB (ps : Arguments) (b : Expr) (sc : Scope) : List V → Prop
  | none : (∀ (q : Str) (cl : List (Str × Addr)) (doc pm cdv ct : Value), bindArgs (PySem.W.kdv_fn "<lambda>" q ps (.expr b) sc cl .none doc pm cdv ct) ⟨[], []⟩ = pure []) → LamB ps b sc []
  | one {a : Str} {w : V} : (∀ (q : Str) (cl : List (Str × Addr)) (T : Addr) (doc pm cdv ct : Value), ∃ k : Option (Array Value) → Sem (List (Str × Value)), bindArgs (PySem.W.kdv_fn "<lambda>" q ps (.expr b) sc cl (.ref T) doc pm cdv ct) ⟨[], []⟩ = seqItems? (.ref T) >>= k ∧
      ∀ u, k (some #[u]) = pure [(a, u)]) → sc.names.lookup a = some .local → LamB ps b sc [w]
/-- the call, in the frame of a def that was called by X's frame at s -/
structure Below (X Z : Cx) (H : Hp) (s : Shared) : Prop where
  prog : Z.prog = X.prog
  w : Z.w = X.w
  K : Z.K = X.K
  mg : Z.mg = X.mg
  bas : Z.base = X.base
  un : ∀ {pins : List (Addr × Obj)} {σ : L2.St} {H' : Hp} {s' : Shared}, Inv Z pins σ H' s' → ∃ ex, Un (frs X.stack) ex H H' s.heap s'.heap ∧ ∀ y c, X.env.cells.lookup y = some c → c ∉ ex
section
variable {X Z : Cx} {pins pinsZ : List (Addr × Obj)} {σ σZ : L2.St} {H HZ : Hp} {s sZ : Shared} {scope : Scope} {f : Addr} {ps : Arguments} {b : Expr} {ws : List V} {E : XK} {W : WX} {k : Nat} {tb : TE} {Q : VK}
theorem act_ok (I : Inv X pins σ H s) (L : LamS3 X.N X.env.scope scope) (hB : LamB ps b scope ws) (bl : Below X Z H s) (IZ : Inv Z pinsZ σZ HZ sZ) (hl : lamP X ps b scope ws HZ f) (tk : Takes Z W) (hW : ∀ cls d H', E cls d H' → W cls d σZ H') (hr : Room (k + 1) Z.A)
    (hbody : ∀ (A : Around) (outer : List PySem.Env) (s : Shared) (H : Hp) (f c' : Addr), Room k (A.deeper (lamEnv X scope s.heap.objs.size f c')) → PE (lamCx X A outer s H E scope f c') b tb) (ht : tb σ HZ Q) :
    wpAny (model Z.prog Z.w) Z.A (call (.ref f) []) (EP Z pinsZ σZ Q) Z.xe sZ := by
  obtain ⟨dV, doc, pm, cc, ct, hf, hc, hd⟩ := hl
  have of1 : sZ.heap.get? f = some (PySem.W.kdv_obj "<lambda>" (X.env.qual ++ "<lambda>") ps (.expr b) scope (cloFrom X.env.cells scope.names []) dV doc pm cc ct) := (IZ.hok f _ hf).1
  obtain ⟨⟨oc, vs, t, hoc, hdc, hvc⟩, _, _⟩ := IZ.hok cc _ hc
  have e0 : Env0 X.prog X.w X.K X.mg X.base Z.A Z.stack sZ HZ := by
    have := IZ.env0
    rw [bl.prog, bl.w, bl.K, bl.mg, bl.bas] at this
    exact this
  have rc : codeAny (model Z.prog Z.w) Z.A (.call (.ref f) ⟨[], []⟩) (CR (L2.CX Z.prog Z.w) Z.stack Z.prog Z.w HZ sZ Q E) sZ := by
    rw [bl.prog, bl.w]
    refine PySem.W.kla_callFunE hr.depth of1 rfl L.co L.gen rfl ⟨cc, oc, vs, t, rfl, hoc, hdc, hvc⟩ ?_
    have go : ∀ binds : List (Str × Value), (∀ y ∈ binds, scope.names.lookup y.1 = some .local) → wpAny (model X.prog X.w) Z.A.in1 (newFunctionEnv scope mainGlobals (cloFrom X.env.cells scope.names []) binds (X.env.qual ++ "<lambda>" ++ ".<locals>.") (some f) (.ref cc) none builtinsNs)
        (fun env s2 => s2.heap.NoLimit ∧ codeAny (model X.prog X.w) Z.A (.expr b env) (CR (L2.CX X.prog X.w) Z.stack X.prog X.w HZ sZ Q E) s2) (fun e s' => CR (L2.CX X.prog X.w) Z.stack X.prog X.w HZ sZ Q E (.error e) s') sZ := fun binds hb => by
      refine wpAny_newFunctionEnv (fun y hy => L.cell y hy) hb (fun h1 hns hsb => ⟨IZ.nolimit.fresh _ hsb, ?_⟩) L.kind
      show codeAny _ _ (.expr b (lamEnv X scope sZ.heap.objs.size f cc)) _ _
      have kp : ∀ a o, sZ.heap.get? a = some o → h1.get? a = some o := fun a o e => hsb.extBut a o (Nat.ne_of_lt (Heap.lt_size e)) (Heap.get?_push_of_some _ e)
      have J : Inv (lamCx X Z.A Z.stack sZ HZ E scope f cc) [] σ HZ { sZ with heap := h1, toks := sZ.toks + binds.length } := by
        obtain ⟨ex, u1, u2⟩ := bl.un IZ
        exact lam_in I L e0 hr.hd u1 u2 hns kp
      refine PySem.W.kla_codeExpr (wpAny_mono ((hbody _ _ sZ HZ f cc (hr.deeper _)).run [] _ _ HZ Q J ht) (fun v s' hq => ?_) fun e s' hq => hq)
      obtain ⟨w', H', J', rv, q⟩ := hq
      exact ⟨w', H', J'.os, J'.bare, J'.base, J'.hok, rv, q⟩
    cases hB with
    | none hb =>
      rcases hd with ⟨_, rfl⟩ | ⟨z, _⟩
      · rw [show bindArgs (PySem.W.kdv_fn "<lambda>" (X.env.qual ++ "<lambda>") ps (.expr b) scope (cloFrom X.env.cells scope.names []) .none doc pm (.ref cc) ct) ⟨[], []⟩ = pure [] from hb _ _ _ _ _ _]
        exact wpAny_pure (go [] (by simp))
      · exact absurd rfl z
    | one hb hloc =>
      rcases hd with ⟨z, _⟩ | ⟨_, T, rfl, hT⟩
      · cases z
      · obtain ⟨kk, h1, h2⟩ := hb (X.env.qual ++ "<lambda>") (cloFrom X.env.cells scope.names []) T doc pm (.ref cc) ct
        obtain ⟨_, its, rv, oT, hoT, _, nT, hdT⟩ := IZ.hok T _ hT
        cases rv with
        | cons r0 r1 =>
          cases r1
          exact BindsTo.of_defaults (s := sZ) (fd := PySem.W.kdv_fn "<lambda>" (X.env.qual ++ "<lambda>") ps (.expr b) scope (cloFrom X.env.cells scope.names []) (.ref T) doc pm (.ref cc) ct) rfl hoT hdT h1 (h2 _) _ _ _ _ (go _ (by simpa using hloc))
  refine wpAny_call (codeAny_mono rc fun r s' hq => ?_)
  cases r with
  | error e => exact tk e s' (XE.of_call IZ hW hq)
  | ok fl =>
    cases fl with
    | ret u => exact IZ.after hq
    | next => exact hq.elim
    | brk => exact hq.elim
    | cont => exact hq.elim
end
end DL

namespace DL
open PySem PySem.Spec PyProof.Rows L2 LamX
/-! ### a def that calls the closure that it got, and tells what came -/
/-- a call that changed nothing of ours -/
theorem Rel.after {K : PySem.W.Frag} {fr : Fr} {ρ : Env} {σ : L2.St} {S H S' H' : Hp} {ad : List Addr} (A : Rel K fr ρ σ S H ad) (g : Grow [] S H S' H') : Rel K fr ρ σ S' H' ad ∧ Step S ad S' ad := by
  have st : Step S ad S' ad := ⟨g.s, [], by simp⟩
  have kp : ∀ a o, H a = some o → H' a = some o := fun a o e => g.h a o e (by simp)
  refine ⟨⟨⟨A.grow.s.trans g.s, g.sh, fun a o e hm => kp a o (A.grow.h a o e hm), fun a h1 h2 h3 => g.n a (A.grow.n a h1 h2 h3) (A.old h2) (A.ntup h2 h3)⟩, fun i x e => ?_, fun n o e => ?_, A.mm, A.nd, A.len, A.al, A.ml, fun l hl => ?_⟩, st⟩
  · obtain ⟨v, e1, e2⟩ := A.slots i x e
    exact ⟨v, e1, e2.mono st⟩
  · obtain ⟨l, ho, e1, e2, e3, e4, e5⟩ := A.own n o e
    exact ⟨l, ho, e1, g.n l e2 (by rw [e3]; simp) (fun xs z => by rw [e3] at z; cases z; exact e4.ntup), kp l ho e3, e4.mono st, e5⟩
  · cases q : H l with
    | none => exact absurd q (A.lv l hl)
    | some u => rw [kp l u q]; simp
/-- what an except clause knows of its exception -/
def exP (K : PySem.W.Frag) (cls : Value) (d : Option Addr) (x : XV) (a : Addr) : Hp → Addr → Prop := fun S b => b = a ∧ IsX K S S cls d x
theorem IsX.mono {K : PySem.W.Frag} {S S' H H' : Hp} {cls : Value} {d : Option Addr} {x : XV} (e : Ex S S') (h : IsX K S H cls d x) : IsX K S' H' cls d x := by
  obtain ⟨h1, h2⟩ := h
  refine ⟨h1, ?_⟩
  rcases h2 with h2 | ⟨dx, vs, a, b, c, r⟩
  · exact .inl h2
  · exact .inr ⟨dx, vs, a, b, e _ _ c, r.mono e⟩
section
variable {X : Cx} {ρ ρ1 ρ2 : Env} {e b : Expr} {r v : VD} {i : Nat} {φ : Hp → Addr → Prop} {x a en xc : Str} {g : Addr} {k : Nat} {pg : Arguments} {bg : List Stmt} {sg scope : Scope} {fd : FuncData} {Ng : List Str} {p pos : Pos} {ps : Arguments} {ws : List V} {c : Value} {xx : XV}
/-- the def, as its caller knows it -/
structure TellD (X : Cx) (x a : Str) (g : Addr) (pg : Arguments) (bg : List Stmt) (sg : Scope) (Ng : List Str) : Prop where
  gl : Gl X x
  mg : X.mg x = some (.ref g)
  fn : ∃ fd, FunD X.K x x pg bg sg [] [] g fd
  bi : ∀ (kV doc pm : Value) (an : Option Addr) (cdv ct : Value) (us : List Value), us.length = 1 → bindArgs (PySem.W.fnOf x x pg bg sg .none kV doc pm an cdv ct) ⟨us, []⟩ = pure ([a].zip us)
  sc : FnScope Ng [a] sg
  db : (x == ("__debug__" : Str)) = false
abbrev tellCx (X : Cx) (x : Str) (g : Addr) (sg : Scope) (Ng : List Str) (cdv : Value) (s : Shared) (H : Hp) : Cx := cxOf CX0 X.prog X.w X.K X.mg X.base Ng x sg g cdv X.A X.stack s H E0
theorem tell_core (T : TellD X x a g pg bg sg Ng) (hr : Room (k + 1) X.A) (he : ED X ρ e (.d (.lam i φ)) ρ1)
    (hG : ∀ (cdv : Value) (pins : List (Addr × Obj)) (s : Shared) (σ : L2.St) (H : Hp) (fr : Fr) (S : Hp) (ad : List Addr) (f : Addr) (Q : VK), Inv X pins σ H s → Rel X.K fr ρ1 σ S H ad → (∀ S', Ex S S' → φ S' f) → Room k (X.A.deeper (envOfC x sg s.heap.objs.size g cdv)) →
      (∀ S' H' ad' v, Step S ad S' ad' → Rel X.K fr ρ2 σ S' H' ad' → Rv X.K S' ad' v r → Q v H') → ∃ t, PSs (tellCx X x g sg Ng cdv s H).nox bg t ∧ t { nx := fun _ H' => Q .non H', rt := Q } (start Ng [.ref f]) H)
    (hst : starEach [e] X.env = (false, eval e X.env) :: starEach [] X.env := by rfl) : ED X ρ (.Call (.Name x p) [e] [] pos) r ρ2 := by
  obtain ⟨fd, F⟩ := T.fn
  have bA := FunD.bindsA (ps := [a]) F T.bi
  obtain ⟨oc, od, dV, kV, doc, pm, an, cdv, ct, osl, rfl, lk, hcd, _, _⟩ := F.ex
  refine ⟨fun pins s σ H Q I ⟨fr, S, ad, A, kk⟩ => ?_⟩
  refine wpAny_Call_Name_kw (ld_glob I T.gl T.mg ?_ T.db)
  have ha : PA X [e] (tA X.K ρ [.d (.lam i φ)] ρ1) := ad_cons he ad_nil hst
  refine PySem.W.callWith_K (h₀ := X.base) I.ok.mod.kin F.kp (thn (ha.run pos pins s σ H (fun vs H1 => ∃ f S1 ad1, vs = [.ref f] ∧ Step S ad S1 ad1 ∧ Rel X.K fr ρ1 σ S1 H1 ad1 ∧ ∀ S', Ex S1 S' → φ S' f) I ⟨fr, S, ad, A, fun S1 H1 ad1 vs st1 A1 r1 => ?_⟩) fun us s1 ⟨vs, H1, I1, rv, f, S1, ad1, ev, st1, A1, hφ⟩ => ⟨I1.kIn, ?_⟩) hst rfl
  · cases r1 with
    | cons r0 rr =>
      cases rr
      cases r0 with
      | d r0 =>
        cases r0 with
        | lam _ hφ => exact ⟨_, S1, ad1, rfl, st1, A1, hφ⟩
  · subst ev
    have rc : codeAny (model X.prog X.w) X.A (.call (.ref g) ⟨us, []⟩) (CR CX0 X.stack X.prog X.w H1 s1 Q E0) s1 := by
      refine run_ofS (N := Ng) (ps := [a]) (us := us) (vs := [.ref f]) lk hcd T.sc hr I1.env0 (bA s1 us (by have := rv.length; simpa using this.symm)) rv rfl fun hr' => ?_
      obtain ⟨t, ht, hq⟩ := hG cdv pins s1 σ H1 fr S1 ad1 f Q I1 A1 hφ hr' (fun S' H' ad' v st A' rv' => kk S' H' ad' v (st1.trans st) A' rv')
      exact ⟨t, ht.nox, hq⟩
    refine wpAny_call (codeAny_mono rc fun r s2 hq => ?_)
    cases r with
    | error e => exact (show False from hq).elim
    | ok fl =>
      cases fl with
      | ret u => exact I1.after hq
      | next => exact False.elim hq
      | brk => exact False.elim hq
      | cont => exact False.elim hq
end
end DL

namespace DL
open PySem PySem.Spec PyProof.Rows L2 LamX
section
variable {X Z : Cx} {ρ ρ1 ρ2 : Env} {e b : Expr} {r v : VD} {i j je : Nat} {x a en xc : Str} {g : Addr} {k : Nat} {pg : Arguments} {sg scope : Scope} {Ng : List Str} {ps : Arguments} {ws : List V} {c : Value} {xx : XV} {W : WX}
  {pins : List (Addr × Obj)} {σ : L2.St} {H : Hp} {s : Shared} {tb : XK → TE} {p1 p2 p3 p4 p5 p6 p7 np hp tp p pos : Pos} {b0 : Stmt} {suite : List Stmt} {doc : Str} {j0 j1 : Nat} {rd : D}
/-- a(): the closure at the name a -/
theorem pe_actD (I : Inv X pins σ H s) (L : LamS3 X.N X.env.scope scope) (hB : LamB ps b scope ws) (bl : Below X Z H s) (tk : Takes Z W) (hr : Room (k + 1) Z.A)
    (hbody : ∀ (E : XK) (A : Around) (outer : List PySem.Env) (s : Shared) (H : Hp) (f c' : Addr), Room k (A.deeper (lamEnv X scope s.heap.objs.size f c')) → PE (lamCx X A outer s H E scope f c') b (tb E))
    (hN : Z.N[j]? = some a) (hv : Vis Z.env.scope a) (hd : (a == ("__debug__" : Str)) = false) (hcd : (a == ("__classdict__" : Str)) = false) :
    PE Z (.Call (.Name a p1) [] [] p2) (fun σZ HZ Q => ∃ f E, σZ[j]? = some (some (.ref f)) ∧ lamP X ps b scope ws HZ f ∧ (∀ cls d H', E cls d H' → W cls d σZ H') ∧ tb E σ HZ Q) := by
  refine ⟨fun pinsZ sZ σZ HZ Q IZ ⟨f, E, hs, hl, hW, ht⟩ => ?_⟩
  refine wpAny_Call_Name_kw (thn ((pe_var (pos := p1) (i := j) hN hv hd hcd).run pinsZ sZ σZ HZ (fun v H1 => v = .ref f ∧ H1 = HZ) IZ ⟨.ref f, hs, rfl, rfl⟩) fun u s1 ⟨v, H1, I1, r1, q1⟩ => ?_)
  obtain ⟨ev, eH⟩ := q1
  subst ev eH
  obtain rfl : u = Value.ref f := r1
  have at_ : ∃ dV doc pm cc ct, s1.heap.get? f = some (PySem.W.kdv_obj "<lambda>" (X.env.qual ++ "<lambda>") ps (.expr b) scope (cloFrom X.env.cells scope.names []) dV doc pm cc ct) := by
    obtain ⟨dV, doc, pm, cc, ct, hf, _, _⟩ := hl
    exact ⟨dV, doc, pm, cc, ct, (I1.hok f _ hf).1⟩
  obtain ⟨_, _, _, _, _, of1⟩ := at_
  refine PySem.W.callWith_F0 ⟨_, _, _, _, of1⟩ ?_
  exact act_ok I L hB bl I1 hl tk hW hr (fun A outer s H f c' hr2 => hbody E A outer s H f c' hr2) ht
/-- the names of such a def -/
structure TryD (X : Cx) (a en xc : Str) (je : Nat) (sg : Scope) (Ng : List Str) (c : Value) : Prop where
  nd : Ng.Nodup
  ia : Ng[0]? = some a
  va : Vis sg a
  ie : Ng[je]? = some en
  le : sg.names.lookup en = some .local
  gx : sg.names.lookup xc = some .globalImplicit
  mx : X.mg xc = some c
  d1 : (a == ("__debug__" : Str)) = false
  d2 : (a == ("__classdict__" : Str)) = false
  d3 : (xc == ("__debug__" : Str)) = false
theorem start0 {Ng : List Str} {f : Addr} : (start Ng [V.ref f])[0]? = some (some (V.ref f)) := by simp [L2.start]
theorem below_tell {cdv : Value} {pn : List (Addr × Obj)} {xe : Value → Shared → Prop} : Below X (((tellCx X x g sg Ng cdv s H).nox).tr pn xe) H s := ⟨rfl, rfl, rfl, rfl, rfl, fun IZ => ⟨[], IZ.base, by simp⟩⟩
/-- the state of the suite -/
def env1 (Ng : List Str) (je : Nat) (K : PySem.W.Frag) (cls : Value) (d : Option Addr) (x : XV) (a : Addr) : Env := ⟨0, (List.replicate Ng.length none).set je (some (.d (.lam 0 (exP K cls d x a)))), []⟩
/-- what the suite must reach -/
def kn1 (r : D) : Kn := { nx := fun _ => False, rt := fun d _ => d = r }
/-- the suite, read behind the closure's exception -/
theorem suite_read {fr : Fr} {S H : Hp} {ad : List Addr} {cls : Value} {d : Option Addr} {ae : Addr} {σZ : L2.St} {D : Ends} {Q : VK} (A : Rel X.K fr ρ2 σ S H ad) (ix : IsX X.K S H cls d xx) (hl : σZ.length = Ng.length) (hje : je < Ng.length) (hD : D.rt = Q)
    (hq : ∀ S' H' ad' v, Step S ad S' ad' → Rel X.K fr ρ2 σ S' H' ad' → Rv X.K S' ad' v (.d rd) → Q v H') : tS X.K (env1 Ng je X.K cls d xx ae) (kn1 rd) D (σZ.set je (some (.ref ae))) H := by
  refine ⟨⟨[], S, H⟩, S, [], ⟨⟨.refl _, A.grow.sh, fun a o e _ => e, fun a e _ _ => e⟩, fun i w e => ?_, fun n o e => ?_, ⟨rfl, rfl⟩, .nil, ?_, rfl, fun n hn => ?_, fun l hl => ?_⟩, ⟨fun _ _ _ _ _ z => z.elim, fun dd ρ' σ' S' H' ad' v hk A' rp => ?_, fun _ _ _ _ _ z => z.elim, fun _ _ _ _ _ z => z.elim, fun _ _ _ _ _ _ _ z => z.elim⟩⟩
  · have e : ((List.replicate Ng.length none).set je (some (VD.d (.lam 0 (exP X.K cls d xx ae)))))[i]? = some (some w) := e
    by_cases h : je = i
    · subst h
      rw [List.getElem?_set_self (by rw [List.length_replicate]; exact hje)] at e
      cases e
      refine ⟨.ref ae, List.getElem?_set_self (by rw [hl]; exact hje), .d (.lam 0 fun S' eS => ⟨rfl, ix.mono eS⟩)⟩
    · rw [List.getElem?_set_ne h] at e
      have := List.getElem?_eq_some_iff.mp e
      obtain ⟨h1, h2⟩ := this
      rw [List.getElem_replicate] at h2
      cases h2
  · have e : ([] : List (Option OD))[n]? = some (some o) := e
    simp at e
  · show ((List.replicate Ng.length none).set je _).length = (σZ.set je _).length
    rw [List.length_set, List.length_set, List.length_replicate, hl]
  · exact absurd hn (Nat.not_lt_zero _)
  · cases hl
  · have hk : dd = rd := hk
    subst hk
    obtain ⟨A2, st⟩ := A.after A'.grow
    rw [hD]
    exact hq S' H' ad v st A2 (.d rp)
/-- try: a() / except xc as en: .. / return None: the closure ends -/
theorem raised_N (T : TellD X x a g pg [.Try [.Expr (.Call (.Name a p1) [] [] p2) p5] [.ExceptHandler (some (.Name xc np)) (some en) (b0 :: suite) hp] [] [] tp, .Return (some (.Constant .none j1 p6)) p7] sg Ng) (Y : TryD X a en xc je sg Ng c)
    (hr : Room (k + 2) X.A) (he : ED X ρ e (.d (.lam i (lamP X ps b scope ws))) ρ1) (L : LamS3 X.N X.env.scope scope) (hB : LamB ps b scope ws)
    (hbody : ∀ (E : XK) (A : Around) (outer : List PySem.Env) (s : Shared) (H : Hp) (f c' : Addr), Room k (A.deeper (lamEnv X scope s.heap.objs.size f c')) → ED (lamCx X A outer s H E scope f c') ρ1 b v ρ2)
    (hst : starEach [e] X.env = (false, eval e X.env) :: starEach [] X.env := by rfl) : ED X ρ (.Call (.Name x p) [e] [] pos) (.d .non) ρ2 := by
  refine tell_core (k := k + 1) T hr he (fun cdv pins s σ H fr S ad f Q I A hφ hr' hq => ?_) hst
  refine ⟨_, pss_cons (ps_try_as (X := (tellCx X x g sg Ng cdv s H).nox) (i := je) (tb := fun W D σZ HZ => ∃ (f : Addr) (E : XK), σZ[0]? = some (some (.ref f)) ∧ lamP X ps b scope ws HZ f ∧ (∀ cls d H', E cls d H' → W cls d σZ H') ∧ tE X.K ρ1 v ρ2 σ HZ fun _ H1 => D.nx σZ H1)
    (ts := fun _ _ _ _ _ _ => False) rfl rfl Y.nd Y.ie Y.le ⟨Y.gx, Y.d3, .inl Y.mx⟩ L2.takes0 (fun W pn xe tk _ => pss_one (ps_expr (pe_actD (j := 0) (tb := fun _ => tE X.K ρ1 v ρ2) I L hB below_tell tk hr' hbody Y.ia Y.va Y.d1 Y.d2)))
    (fun _ _ _ _ _ _ _ => pss_never)) (pss_one (ps_ret pe_non)), ?_⟩
  refine ⟨f, fun _ _ _ => False, start0, hφ H A.grow.sh, fun _ _ _ z => z.elim, fr, S, ad, A, fun S' H' ad' w st A' _ => ?_⟩
  exact hq S' H' ad' _ st A' (.d .non)
/-- .. the closure raises -/
theorem raised_X (T : TellD X x a g pg [.Try [.Expr (.Call (.Name a p1) [] [] p2) p5] [.ExceptHandler (some (.Name xc np)) (some en) (b0 :: suite) hp] [] [] tp, .Return (some (.Constant .none j1 p6)) p7] sg Ng) (Y : TryD X a en xc je sg Ng c)
    (hr : Room (k + 2) X.A) (he : ED X ρ e (.d (.lam i (lamP X ps b scope ws))) ρ1) (L : LamS3 X.N X.env.scope scope) (hB : LamB ps b scope ws) (hex : PySem.W.exmOne X.K (.ref xx.cls) c = some true)
    (hbody : ∀ (E : XK) (A : Around) (outer : List PySem.Env) (s : Shared) (H : Hp) (f c' : Addr), Room k (A.deeper (lamEnv X scope s.heap.objs.size f c')) → EX (lamCx X A outer s H E scope f c') E ρ1 b xx ρ2)
    (hsu : ∀ (cdv : Value) (s : Shared) (H : Hp) (ae : Addr) (oe : Obj) (d : Option Addr) (pn : List (Addr × Obj)), Room (k + 1) (X.A.deeper (envOfC x sg s.heap.objs.size g cdv)) → Zc (.ref xx.cls) d oe → (∃ vs, oe.data = .fields vs) → SDs ((tellCx X x g sg Ng cdv s H).nox.suite ae ((ae, oe) :: pn)) (env1 Ng je X.K (.ref xx.cls) d xx ae) (b0 :: suite) (kn1 rd))
    (hst : starEach [e] X.env = (false, eval e X.env) :: starEach [] X.env := by rfl) : ED X ρ (.Call (.Name x p) [e] [] pos) (.d rd) ρ2 := by
  have hje : je < Ng.length := (List.getElem?_eq_some_iff.mp Y.ie).1
  refine tell_core (k := k + 1) T hr he (fun cdv pins s σ H fr S ad f Q I A hφ hr' hq => ?_) hst
  refine ⟨_, pss_cons (ps_try_as (X := (tellCx X x g sg Ng cdv s H).nox) (i := je) (tb := fun W D σZ HZ => ∃ (f : Addr) (E : XK), σZ[0]? = some (some (.ref f)) ∧ lamP X ps b scope ws HZ f ∧ (∀ cls d H', E cls d H' → W cls d σZ H') ∧ tEX X.K ρ1 xx ρ2 E σ HZ fun _ H1 => D.nx σZ H1)
    (ts := fun ae cls d D σZ HZ => cls = .ref xx.cls ∧ tS X.K (env1 Ng je X.K (.ref xx.cls) d xx ae) (kn1 rd) D σZ HZ) rfl rfl Y.nd Y.ie Y.le ⟨Y.gx, Y.d3, .inl Y.mx⟩ L2.takes0 (fun W pn xe tk _ => pss_one (ps_expr (pe_actD (j := 0) (tb := fun E => tEX X.K ρ1 xx ρ2 E) I L hB below_tell tk hr' hbody Y.ia Y.va Y.d1 Y.d2)))
    (fun ae oe cls d pn hz hv => ⟨fun pins s' σ' H' D I' ⟨ec, h'⟩ => by subst ec; exact (hsu cdv s H ae oe d pn hr' hz hv).run pins s' σ' H' D I' h'⟩)) (pss_one (ps_ret pe_non)), ?_⟩
  refine ⟨f, _, start0, hφ H A.grow.sh, fun _ _ _ z => z, fr, S, ad, A, fun S' H' ad' cls d st A' ix => ?_⟩
  refine ⟨true, by rw [ix.1]; exact hex, fun _ ae _ => ⟨ix.1, ?_⟩, fun z => by cases z⟩
  have ec := ix.1
  subst ec
  exact suite_read (D := { nx := _, rt := _, bk := _, ct := _ }) A' ix (by simp [L2.start]; omega) hje rfl fun S2 H2 ad2 w st2 A2 rw' => hq S2 H2 ad2 w (st.trans st2) A2 rw'
end
end DL

namespace DL
open PySem PySem.Spec PyProof.Rows L2 LamX
/-! ### data with truth values: count, index -/
mutual
def D.okB : D → Bool
  | .non => true
  | .bl _ => true
  | .int _ => true
  | .str x => PyData.strOk x
  | .lst ds => okBAll ds
  | .tup ds => okBAll ds
  | _ => false
def okBAll : List D → Bool
  | [] => true
  | d :: ds => d.okB && okBAll ds
end
mutual
theorem py_layB : ∀ d : D, d.okB = true → d.py.canLay0 = true
  | .non, _ => rfl
  | .bl b, _ => rfl
  | .int i, _ => rfl
  | .str x, h => by simp only [D.okB] at h; simp only [D.py, PyData.canLay0, h]
  | .byt x, h => by simp [D.okB] at h
  | .lst ds, h => by simp only [D.okB] at h; simp only [D.py, PyData.canLay0, pyAll_layB ds h]
  | .tup ds, h => by simp only [D.okB] at h; simp only [D.py, PyData.canLay0, pyAll_layB ds h]
  | .ins _ _ _, h => by simp [D.okB] at h
  | .dic _ _, h => by simp [D.okB] at h
  | .dit _ _, h => by simp [D.okB] at h
  | .ktp _, h => by simp [D.okB] at h
  | .lam _ _, h => by simp [D.okB] at h
  | .ref _, h => by simp [D.okB] at h
  | .ty _, h => by simp [D.okB] at h
theorem pyAll_layB : ∀ ds : List D, okBAll ds = true → PyData.canLayAll0 (pyAll ds) = true
  | [], _ => rfl
  | d :: ds, h => by
    simp only [okBAll, Bool.and_eq_true] at h
    simp only [pyAll, PyData.canLayAll0, py_layB d h.1, pyAll_layB ds h.2, Bool.and_self]
end
theorem py_shapedB {d : D} (h : d.okB = true) (hd : d.dep ≤ 64) : SeqAt.shaped d.py = true := by
  unfold SeqAt.shaped
  have := py_dep d
  rw [py_layB d h, Bool.true_and]
  exact decide_eq_true (by omega)
mutual
theorem Rp.dpB {K : PySem.W.Frag} {S H : Hp} (e : Ex S H) : ∀ (d : D) {v : V}, d.okB = true → Rp K S v d → Dp K H v d.py
  | .non, _, _, h => by cases h; exact .non
  | .bl b, _, _, h => by cases h; exact .bl b
  | .int i, _, _, h => by cases h; exact .int i
  | .str x, _, _, h => by cases h; exact .str x
  | .lst ds, _, o, h => by
    simp only [D.okB] at o
    cases h with
    | lst q r => exact .lst (ex_l e q) (RpAll.dpB e ds o r)
  | .tup ds, _, o, h => by
    simp only [D.okB] at o
    cases h with
    | tup q r => exact .tup (ex_t e (SqT.of q)) (RpAll.dpB e ds o r)
theorem RpAll.dpB {K : PySem.W.Frag} {S H : Hp} (e : Ex S H) : ∀ (ds : List D) {vs : List V}, okBAll ds = true → RpAll K S vs ds → DpAll K H vs (pyAll ds)
  | [], _, _, h => by cases h; exact .nil
  | d :: ds, _, o, h => by
    simp only [okBAll, Bool.and_eq_true] at o
    cases h with
    | cons a b => exact .cons (Rp.dpB e d o.1 a) (RpAll.dpB e ds o.2 b)
end
section
variable {X : Cx} {ρ ρ1 ρ2 : Env} {a b : Expr} {d d' w : D} {pos apos cpos : Pos}
def rCountD (K : PySem.W.Frag) : V → List V → Hp → VK → Prop := fun x xs H Q => ∃ (l : Addr) (y : V) (d : PyData) (ds : List PyData), x = V.ref l ∧ xs = [y] ∧ Dp K H (V.ref l) (.list ds) ∧ Dp K H y d ∧ SeqAt.shaped (.list ds) = true ∧ SeqAt.shaped d = true ∧
  Q (.int ((ds.countP fun z => PyData.eqv z d : Nat) : Int)) H
/-- l.count(x) -/
theorem mt_countD (hu : X.A.units + 65 < cLine) : MtR X "list.count" (rCountD X.K) := by
  intro pins s σ H x xs v us Q I rx rxs h
  obtain ⟨l, y, d, ds, rfl, rfl, hl, hy, sl, sd, q⟩ := h
  cases rx
  cases rxs with
  | cons ry rt =>
    cases rt
    obtain ⟨bs, r1⟩ := Dp.reads I d y _ hy ry
    have hxs : PyData.canLayAll0 ds = true := SeqAt.canLay_of_shaped sl
    cases hl with
    | lst hs ha =>
      obtain ⟨its, rv, ⟨⟨c0, dd, dat, sl0⟩, n, ho, hc, _, hdt⟩, _⟩ := I.list hs
      simp only at hc hdt
      subst hc hdt
      obtain ⟨as, h4⟩ := Dp.readsAll I ds _ its ha rv
      have hmap : its.map (SeqAt.readOf s.heap) = ds := SeqAt.readsAll_map ds its as hxs h4
      refine call_meets PySem.F.slot_list_count ⟨_, ho, rfl⟩ PySem.F.entry_list_count (PySem.F.args_list_count_2 _ _)
        (SeqAt.list_countAt l its.toArray n dd sl0 _ (fun u => PyData.eqv (SeqAt.readOf s.heap u) d)) ⟨ho, SeqAt.items_eqAt (vs := its.toArray) (show ReadsAll s.heap its.toArray.toList ds as from h4) r1 hxs (SeqAt.canLay_of_shaped sd) (room_in_shaped sd hu), ?_⟩
      have e : its.toArray.toList.countP (fun u => PyData.eqv (SeqAt.readOf s.heap u) d) = ds.countP fun z => PyData.eqv z d := by
        rw [← hmap, List.countP_map]; rfl
      rw [e]
      exact ⟨.int _, H, I.tok _, ⟨_, rfl⟩, q⟩
/-- both are data of moderate depth -/
def dBoth (d d' : D) : Bool := d.okB && (d'.okB && (decide (d.dep ≤ 64) && decide (d'.dep ≤ 64)))
theorem dBoth_ok (h : dBoth d d' = true) : d.okB = true ∧ d'.okB = true ∧ d.dep ≤ 64 ∧ d'.dep ≤ 64 := by
  unfold dBoth at h
  simp only [Bool.and_eq_true, decide_eq_true_eq] at h
  exact h
def dCountD : D → D → Option D
  | .lst ds, d => if dBoth (.lst ds) d = true then some (.int (((pyAll ds).countP fun z => PyData.eqv z d.py : Nat) : Int)) else none
  | _, _ => none
def dIndexD : D → D → Option D
  | .lst ds, d => if dBoth (.lst ds) d = true then ((pyAll ds).findIdx? fun z => PyData.eqv z d.py).bind fun j => some (.int (j : Nat)) else none
  | _, _ => none
theorem ed_countM (hu : X.A.units + 65 < cLine) (ha : ED X ρ a (.d d) ρ1) (hb : ED X ρ1 b (.d d') ρ2) (h : dCountD d d' = some w)
    (hbase : attributeBase a "count" X.env (eval a X.env) = eval a X.env)
    (hfew : ((backTo cpos (starEach [b] X.env)).all (fun x => !x.1) && (backToKw cpos (keywordEach [] X.env)).all (fun x => x.1.isSome)
      && decide ([b].length + ([] : List Keyword).length + (if ([] : List Keyword).isEmpty then 0 else 1) < 30)) = true)
    (hline : (apos.endLine == cpos.line) = true) (hs : starEach [b] X.env = (false, eval b X.env) :: starEach [] X.env) (hplain : (backTo cpos (starEach [] X.env)).any (·.1) = false) :
    ED X ρ (.Call (.Attribute a "count" apos) [b] [] cpos) (.d w) ρ2 := by
  unfold dCountD at h
  split at h
  · rename_i ds
    split at h
    · rename_i hb'
      cases h
      obtain ⟨o1, o2, s1, s2⟩ := dBoth_ok hb'
      refine ed_of (pe_bm PySem.F.plainAttrs_list PySem.F.slot_list_count PySem.F.type_list_count (mt_countD hu) ha (pa_cons hb pa_nil hs) hbase hfew hline hs hplain) fun σ H Q ⟨fr, S, ad, A, kk⟩ => ⟨fr, S, ad, A, fun S1 H1 ad1 v1 st1 A1 r1 => ?_⟩
      obtain ⟨p, vs, e1, e2, e3⟩ := r1.dd.lst_inv
      refine ⟨by rw [e1]; exact .inl ⟨rfl, _, ex_l A1.grow.sh e2⟩, fr, S1, ad1, A1, fun S2 H2 ad2 v2 st2 A2 r2 => ?_⟩
      have hd := Rp.dpB (K := X.K) (A2.grow.sh) (.lst ds) o1 ((r1.mono st2).dd)
      have hsh := py_shapedB (d := .lst ds) o1 s1
      simp only [D.py] at hd hsh
      rw [e1] at hd ⊢
      exact ⟨p, v2, _, _, rfl, rfl, hd, Rp.dpB A2.grow.sh _ o2 r2.dd, hsh, py_shapedB o2 s2, kk S2 H2 ad2 _ (st1.trans st2) A2 (.d (.int _))⟩
    · cases h
  · cases h
theorem ed_indexDM (hu : X.A.units + 65 < cLine) (ha : ED X ρ a (.d d) ρ1) (hb : ED X ρ1 b (.d d') ρ2) (h : dIndexD d d' = some w)
    (hbase : attributeBase a "index" X.env (eval a X.env) = eval a X.env)
    (hfew : ((backTo cpos (starEach [b] X.env)).all (fun x => !x.1) && (backToKw cpos (keywordEach [] X.env)).all (fun x => x.1.isSome)
      && decide ([b].length + ([] : List Keyword).length + (if ([] : List Keyword).isEmpty then 0 else 1) < 30)) = true)
    (hline : (apos.endLine == cpos.line) = true) (hs : starEach [b] X.env = (false, eval b X.env) :: starEach [] X.env) (hplain : (backTo cpos (starEach [] X.env)).any (·.1) = false) :
    ED X ρ (.Call (.Attribute a "index" apos) [b] [] cpos) (.d w) ρ2 := by
  unfold dIndexD at h
  split at h
  · rename_i ds
    split at h
    · rename_i hb'
      obtain ⟨j, hj, h⟩ := bnd h
      cases h
      obtain ⟨o1, o2, s1, s2⟩ := dBoth_ok hb'
      obtain ⟨h1, h2, h3⟩ := List.findIdx?_eq_some_iff_getElem.mp hj
      refine ed_of (pe_bm PySem.F.plainAttrs_list PySem.F.slot_list_index PySem.F.type_list_index (mt_indexD hu) ha (pa_cons hb pa_nil hs) hbase hfew hline hs hplain) fun σ H Q ⟨fr, S, ad, A, kk⟩ => ⟨fr, S, ad, A, fun S1 H1 ad1 v1 st1 A1 r1 => ?_⟩
      obtain ⟨p, vs, e1, e2, e3⟩ := r1.dd.lst_inv
      refine ⟨by rw [e1]; exact .inl ⟨rfl, _, ex_l A1.grow.sh e2⟩, fr, S1, ad1, A1, fun S2 H2 ad2 v2 st2 A2 r2 => ?_⟩
      have hd := Rp.dpB (K := X.K) (A2.grow.sh) (.lst ds) o1 ((r1.mono st2).dd)
      have hsh := py_shapedB (d := .lst ds) o1 s1
      simp only [D.py] at hd hsh
      rw [e1] at hd ⊢
      refine ⟨p, v2, _, _, j, _, rfl, rfl, hd, Rp.dpB A2.grow.sh _ o2 r2.dd, hsh, py_shapedB o2 s2, List.getElem?_eq_getElem h1, h2, fun m z' hm hz => ?_, kk S2 H2 ad2 _ (st1.trans st2) A2 (.d (.int _))⟩
      have h4 := h3 m hm
      obtain ⟨_, h5⟩ := List.getElem?_eq_some_iff.mp hz
      rw [h5] at h4
      simpa using h4
    · cases h
  · cases h
end
/-! ### the caught exception: isinstance, its fields -/
section
variable {X : Cx} {ρ ρ1 : Env} {ae C D0 : Addr} {oe : Obj} {d : Option Addr} {pn : List (Addr × Obj)} {x : XV} {e : Expr} {pos pp : Pos} {bb : Bool} {n : Str} {w : D}
def rIsX (K : PySem.W.Frag) (D0 a : Addr) (d : Option Addr) : List V → Hp → VK → Prop := fun xs H Q => ∃ (c : V) (cv : Value) (b : Bool), xs = [.ref a, c] ∧ (∀ u, RelV c u → u = cv) ∧ PySem.W.kitOne K (.ref D0) cv = some b ∧ (∀ dd, d = some dd → ∃ fs, H dd = some (.xd fs)) ∧ Q (.bl b) H
theorem call_isX (T : L2.ExcC X.K D0) (hz : Zc (.ref D0) d oe) (hf : ∃ vs, oe.data = .fields vs) : CallR (X.suite ae ((ae, oe) :: pn)) (.builtin "isinstance") (rIsX X.K D0 ae d) := by
  intro pins s σ H xs us Q I r h
  obtain ⟨c, cv, b, rfl, hcv, e, hdd, q⟩ := h
  cases r with
  | cons rx rr =>
    cases rr with
    | cons rt rr =>
      cases rr
      cases rx
      have ec := hcv _ rt
      subst ec
      obtain ⟨hget, _⟩ := I.pin (ae, oe) (List.mem_append.mpr (.inl List.mem_cons_self))
      obtain ⟨vs, hv⟩ := hf
      have hcl : (PySem.W.clsIn X.K D0).isSome = true := by
        obtain ⟨cd, hc, _⟩ := PySem.W.any_some T.hd
        rw [hc]; rfl
      have J : ∃ od, PySem.W.InstAt s.heap ae oe D0 od := by
        cases d with
        | none => exact ⟨none, hget, hz.1, by unfold PySem.W.notCls; rw [hv] <;> rfl, by rw [hz.2]; trivial⟩
        | some dd =>
          obtain ⟨u, hu⟩ := hdd dd rfl
          obtain ⟨od, ho⟩ : ∃ od, s.heap.get? dd = some od := by
            have hx : ObjOk X.prog X.w H s.heap dd (.xd u) := I.hok dd _ hu
            obtain ⟨mA, ⟨o, _, _, e', _⟩, _⟩ := hx
            exact ⟨o, e'⟩
          exact ⟨some od, hget, hz.1, by unfold PySem.W.notCls; rw [hv] <;> rfl, by rw [hz.2]; exact ho⟩
      obtain ⟨od, J⟩ := J
      exact PySem.W.kia_one (PySem.W.kitx_exc (gt := none) hcl T.hg T.hk T.hs T.ha T.hn T.ht T.hm) I.kIn J e (fun z => nomatch z) fun tk => ⟨.bl b, H, I.kept (t' := tk) fun _ _ z => z, rfl, q⟩
theorem exP_inv {K : PySem.W.Frag} {S : Hp} {v : V} {i : Nat} {cls : Value} (h : Rp K S v (.lam i (exP K cls d x ae))) : v = .ref ae ∧ IsX K S S cls d x := by
  cases h with
  | lam _ h =>
    obtain ⟨h1, h2⟩ := h S (.refl _)
    subst h1
    exact ⟨rfl, h2⟩
theorem cb_isX {i : Nat} (T : L2.ExcC X.K x.cls) (hz : Zc (.ref x.cls) d oe) (hf : ∃ vs, oe.data = .fields vs) (hk : PySem.W.kitOne X.K (.ref x.cls) (.ref C) = some bb) :
    CBR (X.suite ae ((ae, oe) :: pn)) (.builtin "isinstance") ρ [.d (.lam i (exP X.K (.ref x.cls) d x ae)), .d (.ref C)] (.d (.bl bb)) ρ := ⟨_, call_isX T hz hf, fun fr σ S H ad vs Q A r0 k => by
  obtain ⟨v, w, rfl, r1, r2⟩ := rv2 r0
  obtain ⟨rfl, ix⟩ := exP_inv r1.dd
  have hw : w = .ref C := by cases r2.dd; rfl
  subst hw
  refine ⟨_, .ref C, bb, rfl, fun u hu => by cases hu; rfl, hk, fun dd ed => ?_, k S H ad _ (.refl _ _) A (.d (.bl _))⟩
  rcases ix.2 with ⟨_, _, z⟩ | ⟨dx, ws, h1, h2, h3, h4⟩
  · rw [z] at ed; cases ed
  · rw [h1] at ed; cases ed
    exact ⟨_, A.grow.sh _ _ h3⟩⟩
theorem cb_isXt {i : Nat} {t : String} (T : L2.ExcC X.K x.cls) (hz : Zc (.ref x.cls) d oe) (hf : ∃ vs, oe.data = .fields vs) (hk : PySem.W.kitOne X.K (.ref x.cls) (.type t) = some bb) :
    CBR (X.suite ae ((ae, oe) :: pn)) (.builtin "isinstance") ρ [.d (.lam i (exP X.K (.ref x.cls) d x ae)), .d (.ty t)] (.d (.bl bb)) ρ := ⟨_, call_isX T hz hf, fun fr σ S H ad vs Q A r0 k => by
  obtain ⟨v, w, rfl, r1, r2⟩ := rv2 r0
  obtain ⟨rfl, ix⟩ := exP_inv r1.dd
  have hw : w = .ty t := by cases r2.dd; rfl
  subst hw
  refine ⟨_, .type t, bb, rfl, fun u hu => by cases hu; rfl, hk, fun dd ed => ?_, k S H ad _ (.refl _ _) A (.d (.bl _))⟩
  rcases ix.2 with ⟨_, _, z⟩ | ⟨dx, ws, h1, h2, h3, h4⟩
  · rw [z] at ed; cases ed
  · rw [h1] at ed; cases ed
    exact ⟨_, A.grow.sh _ _ h3⟩⟩
theorem lookup_zip_get {K : PySem.W.Frag} {S : Hp} : ∀ {ns : List Str} {vs : List V} {ds : List D} {w : D}, RpAll K S vs ds → ns.length = vs.length → (ns.zip ds).lookup n = some w → ∃ v, (ns.zip vs).lookup n = some v ∧ Rp K S v w
  | [], _, _, _, _, _, h => by simp at h
  | m :: ns, _, _, w, .nil, hl, _ => by simp at hl
  | m :: ns, v :: vs, d :: ds, w, .cons a b, hl, h => by
    simp only [List.zip_cons_cons, List.lookup_cons] at h ⊢
    split at h
    · rename_i e
      cases h
      exact ⟨v, by simp [e], a⟩
    · rename_i e
      obtain ⟨v', h1, h2⟩ := lookup_zip_get b (by simpa using hl) h
      exact ⟨v', by simp [e, h1], h2⟩
/-- e.n -/
theorem ed_xf {i : Nat} (T : XfC X.K x.cls) (hno : PySem.W.findIn X.K (.ref x.cls) n = some none) (hz : Zc (.ref x.cls) d oe) (hf : ∃ vs, oe.data = .fields vs) (he : ED (X.suite ae ((ae, oe) :: pn)) ρ e (.d (.lam i (exP X.K (.ref x.cls) d x ae))) ρ1) (hw : (x.ns.zip x.ds).lookup n = some w)
    (hb : attributeBase e n X.env (eval e X.env) = eval e X.env := by rfl) : ED (X.suite ae ((ae, oe) :: pn)) ρ (.Attribute e n pos) (.d w) ρ1 :=
  ed_of (pe_xf (cls := .ref x.cls) (d := d) T hno hz hf he hb) fun σ H Q ⟨fr, S, ad, A, kk⟩ => ⟨fr, S, ad, A, fun S1 H1 ad1 v1 st1 A1 r1 => by
    obtain ⟨rfl, ix⟩ := exP_inv r1.dd
    rcases ix.2 with ⟨z, _⟩ | ⟨dx, ws, h1, h2, h3, h4⟩
    · rw [z] at hw; simp at hw
    · obtain ⟨v, hv, rv⟩ := lookup_zip_get h4 h2 hw
      exact ⟨rfl, rfl, dx, _, v, h1, A1.grow.sh _ _ h3, hv, kk S1 H1 ad1 v st1 A1 (.d rv)⟩⟩
end
end DL

namespace DL
open PySem PySem.Spec PyProof.Rows L2
/-! ### a def that hands back a new object, which is the caller's from then on -/
abbrev OSpec := List VD → OD → Prop
def spO (K : PySem.W.Frag) (R : OSpec) : Sp := fun vs H Q _ => ∃ S xs ds o, Ex S H ∧ RvAll K S [] vs xs ∧ AllD xs ds ∧ R xs o ∧ ∀ S' H' l ho, Grow [] S H S' H' → S' l = none → H' l = some ho → H l = none → OR K S' [] l ho o → Q (.ref l) H'
/-- an object that is there is ours -/
theorem Rel.addO {K : PySem.W.Frag} {fr : Fr} {ρ : Env} {σ : L2.St} {S H : Hp} {ad : List Addr} (R : Rel K fr ρ σ S H ad) {p : Addr} {ho : HO} {o : OD} (hS : S p = none) (hp : H p = some ho) (hn : p ∉ ad) (hf : fr.H p = none) (h : OR K S (ad ++ [p]) p ho o) :
    Rel K fr { ρ with ow := ρ.ow ++ [some o] } σ S H (ad ++ [p]) ∧ Step S ad S (ad ++ [p]) ∧ (ad ++ [p])[ρ.ow.length]? = some p := by
  have hst : Step S ad S (ad ++ [p]) := ⟨.refl _, [p], rfl⟩
  have hm : ρ.m ≤ ad.length := by
    have := congrArg List.length R.mm.2
    rw [List.length_take, R.mm.1] at this; omega
  refine ⟨⟨R.grow, fun i x e => ?_, fun n u e => ?_, ⟨R.mm.1, ?_⟩, ?_, R.len, ?_, fun n hn => ?_, fun l hl => ?_⟩, hst, ?_⟩
  · obtain ⟨v, e1, e2⟩ := R.slots i x e
    exact ⟨v, e1, e2.mono hst⟩
  · by_cases hlt : n < ρ.ow.length
    · have e' : ρ.ow[n]? = some (some u) := by rw [← e]; exact (List.getElem?_append_left hlt).symm
      obtain ⟨l, ho', e1, e2, e3, e4, e5⟩ := R.own n u e'
      exact ⟨l, ho', hst.get e1, e2, e3, e4.mono hst, e5⟩
    · have hlt2 := (List.getElem?_eq_some_iff.mp e).1
      simp at hlt2
      have hn' : n = ρ.ow.length := by omega
      subst hn'
      have : u = o := by simpa using e.symm
      subst this
      exact ⟨p, ho, by rw [← R.al]; simp, hS, hp, h, fun _ => hf⟩
  · rw [List.take_append_of_le_length hm]; exact R.mm.2
  · refine List.nodup_append.mpr ⟨R.nd, by simp, fun a ha b hb => ?_⟩
    have : b = p := by simpa using hb
    subst this
    exact fun z => hn (z ▸ ha)
  · simp [R.al]
  · obtain ⟨o', e⟩ := R.ml n hn
    exact ⟨o', by rw [← e]; exact List.getElem?_append_left (List.getElem?_eq_some_iff.mp e).1⟩
  · rcases List.mem_append.mp hl with z | z
    · exact R.lv l z
    · have : l = p := by simpa using z
      subst this; rw [hp]; simp
  · rw [← R.al]; simp
section
variable {P : Program} {w : World} {K : PySem.W.Frag} {mg : Str → Option Value} {base : Heap} {x qual : Str} {params : Arguments} {body : List Stmt} {scope : Scope} {f : Addr} {fd : FuncData} {N ps : List Str} {j : Nat} {R : OSpec}
structure OGs (P : Program) (w : World) (K : PySem.W.Frag) (mg : Str → Option Value) (base : Heap) (A : Around) (x : Str) (R : OSpec) : Prop where
  ex : ∃ f j, FnR P w K mg base CX0 j f (spO K R) ∧ Room j A ∧ mg x = some (.ref f) ∧ PySem.W.keepIn K (.ref f) = true
end
section
variable {X : Cx} {ρ ρ1 : Env} {e : Expr} {es : List Expr} {xs : List VD} {ds : List D} {n : Str} {R : OSpec} {o : OD} {pp pos : Pos}
end
end DL

namespace DL
open PySem PySem.Spec PyProof.Rows L2
/-! ### raise -/
/-- an own class without an __init__, over ValueError -/
structure XC0 (K : PySem.W.Frag) (C : Addr) : Prop where
  q : PySem.W.excIn K C PySem.HandSPX.veTail "ValueError.__new__" = true
  kC : PySem.W.keepIn K (.ref C) = true
  s : PySem.W.subIn K (.ref C) (.type "BaseException") = some true
  t : PySem.W.typeIn K (.ref C) = some (.type "type")
section
variable {X : Cx} {E : XK} {ρ ρ1 : Env} {e : Expr} {r : List Stmt} {n m f : Str} {C fI : Addr} {p p2 pos pos' : Pos} {j : Nat} {P N : Env → Prop} {i : Int}
/-- raise C("m") -/
theorem sx_raise0 (hc : X.calm = true) (tk : Lets X E) (T : XC0 X.K C) (hm : X.mg n = some (.ref C)) (hg : Gl X n) (hp : P ρ) (hdb : (n == ("__debug__" : Str)) = false := by decide) :
    SXs X E ρ (.Raise (some (.Call (.Name n p) [.Constant (.str m) j p2] [] pos')) none pos :: r) ⟨C, [], []⟩ P N :=
  sx_end ⟨fun pins s σ H Dn I ⟨fr, S, ad, A, kk, kn⟩ => (ps_raise hc tk (pmk_own PySem.F.excBase_ValueError T.q hm T.kC (raises_own T.s T.t) hg hdb)).run pins s σ H Dn I (kk ρ σ S H ad _ _ hp A ⟨rfl, .inl ⟨rfl, rfl, rfl⟩⟩)⟩
/-- what the __init__ of a class with one field does -/
def spI1 (K : PySem.W.Frag) (f : Str) : Sp := fun vs H Q _ => ∃ (a C : Addr) (i : Int), vs = [.ref a, .int i] ∧ i.natAbs < 10 ^ 64 ∧ OexC K C ∧ PySem.W.findIn K (.ref C) f = some none ∧ H a = some (exo a C none) ∧ ∀ dx, H dx = none → dx ≠ a → Q .non (upd (upd H dx (exd dx [(f, .int i)])) a (exo a C (some dx)))
/-- the __init__ that the class has -/
structure XC1 (P : Program) (w : World) (K : PySem.W.Frag) (mg : Str → Option Value) (base : Heap) (A : Around) (C : Addr) (f : Str) : Prop where
  T : OexC K C
  no : PySem.W.findIn K (.ref C) f = some none
  ex : ∃ fI k fd ps, PySem.W.findIn K (.ref C) "__init__" = some (some (.ref fI)) ∧ PySem.W.typeIn K (.ref fI) = some (.type "function") ∧ FnOk P w K mg base CX0 k fI fd ps (spI1 K f) ∧ Room (k + 1) A ∧ Binds K fd ps []
/-- raise C(e), e an int -/
theorem sx_raise1 (hc : X.calm = true) (tk : Lets X E) (T : XC1 X.prog X.w X.K X.mg X.base X.A C f) (hm : X.mg n = some (.ref C)) (hg : Gl X n) (he : ED X ρ e (.d (.int i)) ρ1) (hi : i.natAbs < 10 ^ 64) (hp : P ρ1) (hdb : (n == ("__debug__" : Str)) = false := by decide)
    (hst : starEach [e] X.env = (false, eval e X.env) :: starEach [] X.env := by rfl) :
    SXs X E ρ (.Raise (some (.Call (.Name n p) [e] [] pos')) none pos :: r) ⟨C, [f], [.int i]⟩ P N := by
  obtain ⟨fI, k, fd, ps, h1, h2, F, hr, hb⟩ := T.ex
  refine sx_end ⟨fun pins s σ H Dn I ⟨fr, S, ad, A, kk, kn⟩ => (ps_raise hc tk (pmk_oex (ds := []) (dvs := []) T.T h1 h2 F hr hb .nil CX0_pass hg hm (ad_cons he ad_nil hst) hdb hst rfl)).run pins s σ H Dn I ?_⟩
  refine ⟨fr, S, ad, A, fun S1 H1 ad1 vs st1 A1 r1 => ?_⟩
  have ev : vs = [.int i] := by
    cases r1 with
    | cons r0 rr =>
      cases rr
      rw [r0.di]
  subst ev
  refine ⟨by simp, fun a ha => ⟨a, C, i, rfl, hi, T.T, T.no, upd_same, fun dx h3 h4 => ⟨rfl, dx, _, upd_same, by rw [upd_ne h4]; exact upd_same, ?_, ?_⟩⟩⟩
  · rw [upd_ne h4] at h3; exact h3
  · rw [upd_ne h4] at h3
    have eH : upd (del (upd (upd (upd H1 a (exo a C none)) dx (exd dx [(f, .int i)])) a (exo a C (some dx))) a) dx (.xd [(f, .int i)]) = upd H1 dx (.xd [(f, .int i)]) := by
      funext b
      by_cases hb1 : b = dx
      · subst hb1; rw [upd_same, upd_same]
      · rw [upd_ne hb1, upd_ne hb1]
        by_cases hb2 : b = a
        · subst hb2; rw [del_same, ha]
        · rw [del_ne hb2, upd_ne hb2, upd_ne hb1, upd_ne hb2]
    rw [eH]
    obtain ⟨A2, st2⟩ := A1.newS (p := dx) (o := .xd [(f, .int i)]) h3
    exact kk ρ1 σ _ _ ad1 _ _ hp A2 ⟨rfl, .inr ⟨dx, [.int i], rfl, rfl, upd_same, .cons (.int i) .nil⟩⟩
end
/-! ### the __init__ of a class with one field: S.__init__(self, text); self.f = a -/
section
variable {X : Cx} {CS : Addr} {e : Expr} {es : List Expr} {ta : TA} {n : Str} {p1 p2 pos : Pos} {mc : Value}
theorem pe_oinit {pl : Sem Bool} (hg : Gl X n) (hm : X.mg n = some (.ref CS)) (hs : PySem.W.specialIn X.K (.ref CS) "__getattribute__" = some (some (.builtin "type.__getattribute__"))) (hr : PySem.W.readsIn X.K CS mc = true)
    (hf : PySem.W.findCls X.K (.ref CS) mc "__init__" = some (.val (.builtin "ValueError.__init__"))) (ha : PA X (e :: es) ta) (hdb : (n == ("__debug__" : Str)) = false)
    (hc : eval (.Call (.Attribute (.Name n p1) "__init__" p2) (e :: es) [] pos) X.env = (do
      let ov ← eval (.Name n p1) X.env
      standAt p2.atName
      let (f, first) ← holding [ov] (getMethod ov "__init__" pl)
      callWith pos f first (backTo pos (starEach (e :: es) X.env)) (backToKw pos (keywordEach [] X.env))) := by rfl)
    (he : starEach (e :: es) X.env = (false, eval e X.env) :: starEach es X.env := by rfl) (hpl : (backTo pos (starEach es X.env)).any (·.1) = false := by rfl) :
    PE X (.Call (.Attribute (.Name n p1) "__init__" p2) (e :: es) [] pos) (tVeI X.K ta) := by
  refine ⟨fun pins s σ H Q I h => ?_⟩
  refine PySem.W.methodCall_KW (ld_glob I hg hm ?_ hdb) hc
  refine PySem.W.method_cls I.kIn hs (PySem.W.cls_value I.kIn hr hf (by decide +kernel) ?_)
  show wpAny _ _ (callWith pos (Value.builtin "ValueError.__init__") [] (backTo pos (starEach (e :: es) X.env)) []) _ _ _
  refine PyProof.Rows.callWith_method1 (thn (ha.run pos pins _ σ H _ (I.tok _) h) fun us s1 ⟨vs, H1, I1, r1, a, C, ws, ev, hl, T, ea, q⟩ => ?_) he hpl
  subst ev
  cases r1 with
  | @cons _ u0 _ ur ra rw' =>
    obtain rfl : u0 = Value.ref a := ra
    exact oinit_ok T I1 ea (by rw [← Paired.length rw', sizeLine_eq]; omega) fun s' J => ⟨.non, H1, J, rfl, q⟩
end
/-- the base class of all, as its subclasses' __init__ call it -/
structure BaseC (K : PySem.W.Frag) (mg : Str → Option Value) (n : Str) : Prop where
  ex : ∃ CS mc, mg n = some (.ref CS) ∧ PySem.W.specialIn K (.ref CS) "__getattribute__" = some (some (.builtin "type.__getattribute__")) ∧ PySem.W.readsIn K CS mc = true ∧ PySem.W.findCls K (.ref CS) mc "__init__" = some (.val (.builtin "ValueError.__init__"))
end DL

namespace DL
open PySem PySem.Spec PyProof.Rows L2
/-! ### the text that such an __init__ makes -/
/-- a text of the second parameter, an int -/
def JTxt (X : Cx) (J : Expr) : Prop := ∃ t : TE, PE X J t ∧ ∀ σ H Q (i : Int), σ[1]? = some (some (.int i)) → i.natAbs < 10 ^ 64 → (∀ z : Str, Q (.str z) H) → t σ H Q
section
variable {X : Cx} {c1 c2 an : Str} {j1 j2 : Nat} {q1 q2 q3 q4 q5 : Pos} {i : Int}
theorem small_log (h : i.natAbs < 10 ^ 64) : i.natAbs.log2 < 1920 := by
  by_cases h0 : i.natAbs = 0
  · rw [h0]; decide
  · rw [Nat.log2_lt h0]
    exact Nat.lt_of_lt_of_le h (by decide +kernel)
theorem small_len (h : i.natAbs < 10 ^ 64) : (Str.ofString (toString i)).length ≤ 65 := by
  have := int_text_length_le10 (k := 64) (by decide) h
  rw [PySem.ofString_length]; exact this
theorem str_len_app (a b : Str) : (a ++ b).length = a.length + b.length := by
  show (Str.append a b).cps.size = _
  simp [Str.append, Str.length]
theorem jtxt3 (hN : X.N[1]? = some an) (hv : Vis X.env.scope an) (h1 : c1.length ≤ 1000) (h2 : c2.length ≤ 1000) (hd : (an == ("__debug__" : Str)) = false) (hcd : (an == ("__classdict__" : Str)) = false) :
    JTxt X (.JoinedStr [.Constant (.str c1) j1 q1, .FormattedValue (.Name an q2) (-1) none q3, .Constant (.str c2) j2 q5] q4) := by
  refine ⟨_, pe_joined (.cons pe_str (.cons (pe_fmt (pe_var (i := 1) hN hv hd hcd)) (.cons pe_str .nil))), fun σ H Q i hs hi k => ?_⟩
  refine ⟨c1, rfl, ?_, .int i, hs, .inr ⟨i, rfl, small_log hi, _, rfl, ?_, c2, rfl, ?_, k _⟩⟩
  · rw [str_len_app, sizeLine_eq]
    have : Str.empty.length = 0 := rfl
    omega
  · have := small_len hi
    have e0 : Str.empty.length = 0 := rfl
    rw [str_len_app, str_len_app, sizeLine_eq]
    omega
  · have := small_len hi
    have e0 : Str.empty.length = 0 := rfl
    rw [str_len_app, str_len_app, str_len_app, sizeLine_eq]
    omega
end
section
variable {P : Program} {w : World} {K : PySem.W.Frag} {mg : Str → Option Value} {base : Heap} {qual sn an f : Str} {params : Arguments} {scope : Scope} {fI : Addr} {fd : FuncData} {J : Expr} {p1 p2 p3 p4 p5 p6 p7 p8 p9 : Pos} {k : Nat}
theorem ok_init1 (F : FunD K "__init__" qual params [.Expr (.Call (.Attribute (.Name sn p1) "__init__" p2) [.Name "self" p3, J] [] p4) p5, .Assign [.Attribute (.Name "self" p6) f p7] (.Name an p8) p9] scope [] [] fI fd) (S : FnScope ["self", an] ["self", an] scope)
    (hg : scope.names.lookup sn = some .globalImplicit) (B : BaseC K mg sn) (v0 : Vis scope "self") (v1 : Vis scope an)
    (hJ : ∀ (cdv : Value) (A : Around) (outer : List PySem.Env) (s : Shared) (H : Hp) (E : XK), JTxt (cxOf CX0 P w K mg base ["self", an] qual scope fI cdv A outer s H E) J ∧
      starEach [.Name "self" p3, J] (cxOf CX0 P w K mg base ["self", an] qual scope fI cdv A outer s H E).env = (false, eval (.Name "self" p3) (cxOf CX0 P w K mg base ["self", an] qual scope fI cdv A outer s H E).env) :: starEach [J] (cxOf CX0 P w K mg base ["self", an] qual scope fI cdv A outer s H E).env ∧
      starEach [J] (cxOf CX0 P w K mg base ["self", an] qual scope fI cdv A outer s H E).env = (false, eval J (cxOf CX0 P w K mg base ["self", an] qual scope fI cdv A outer s H E).env) :: starEach [] (cxOf CX0 P w K mg base ["self", an] qual scope fI cdv A outer s H E).env ∧
      swapsWith (.Call (.Attribute (.Name sn p1) "__init__" p2) [.Name "self" p3, J] [] p4) none p5.line (cxOf CX0 P w K mg base ["self", an] qual scope fI cdv A outer s H E).env = pure false ∧ swapsWith (.Name an p8) (some (.Attribute (.Name "self" p6) f p7)) p9.line (cxOf CX0 P w K mg base ["self", an] qual scope fI cdv A outer s H E).env = pure false ∧
      ∃ pl : Sem Bool, eval (.Call (.Attribute (.Name sn p1) "__init__" p2) [.Name "self" p3, J] [] p4) (cxOf CX0 P w K mg base ["self", an] qual scope fI cdv A outer s H E).env = (do
        let ov ← eval (.Name sn p1) (cxOf CX0 P w K mg base ["self", an] qual scope fI cdv A outer s H E).env
        standAt p2.atName
        let (f, first) ← holding [ov] (getMethod ov "__init__" pl)
        callWith p4 f first (backTo p4 (starEach [.Name "self" p3, J] (cxOf CX0 P w K mg base ["self", an] qual scope fI cdv A outer s H E).env)) (backToKw p4 (keywordEach [] (cxOf CX0 P w K mg base ["self", an] qual scope fI cdv A outer s H E).env))))
    (hd : (an == ("__debug__" : Str)) = false) (hcd : (an == ("__classdict__" : Str)) = false) (hdb : (sn == ("__debug__" : Str)) = false) : FnOk P w K mg base CX0 (k + 1) fI fd ["self", an] (spI1 K f) := by
  refine F.ok S (fun vs H Q E h => ?_) (fun cdv A outer s H vs Q E hr h => ?_)
  · obtain ⟨a, C, i, e, _⟩ := h
    rw [e]; rfl
  · obtain ⟨a, C, i, e, hi, T, hno, ha, kq⟩ := h
    subst e
    obtain ⟨CS, mc, b1, b2, b3, b4⟩ := B.ex
    obtain ⟨⟨t, hp, ht⟩, s1, s2, s3, s4, pl, hev⟩ := hJ cdv A outer s H E
    have pv0 : ∀ q : Pos, PE (cxOf CX0 P w K mg base ["self", an] qual scope fI cdv A outer s H E) (.Name "self" q) (tVar 0) := fun q => pe_var (i := 0) rfl v0 (by decide) (by decide)
    have pv1 : ∀ q : Pos, PE (cxOf CX0 P w K mg base ["self", an] qual scope fI cdv A outer s H E) (.Name an q) (tVar 1) := fun q => pe_var (i := 1) rfl v1 hd hcd
    refine ⟨_, pss_cons (ps_expr (pe_oinit (CS := CS) (mc := mc) hg b1 b2 b3 b4 (pa_cons (pv0 p3) (pa_cons hp pa_nil s2) s1) hdb hev s1 (by rw [s2]; rfl)) s3) (pss_one (ps_ost (pv0 p6) (pv1 p8) s4)), ?_⟩
    refine ⟨.ref a, rfl, ht _ _ _ i rfl hi fun z => ?_⟩
    refine ⟨a, C, [.str z], rfl, by simp, T, ha, ?_⟩
    refine ⟨.int i, rfl, .ref a, rfl, a, C, rfl, T, hno, .inl ⟨ha, fun dx h1 h2 => kq dx h1 h2⟩⟩
end
end DL

namespace DL
open PySem PySem.Spec PyProof.Rows L2
/-! ### a def that raises -/
section
variable {P : Program} {w : World} {K : PySem.W.Frag} {mg : Str → Option Value} {base : Heap} {x qual : Str} {params : Arguments} {body : List Stmt} {scope : Scope} {f : Addr} {fd : FuncData} {N ps : List Str} {j : Nat} {R : XSpec}
/-- what its body must reach -/
def pn0 (n : Nat) (os' : List OD) : Env → Prop := fun ρ => ρ.ow.take n = os'.map some
theorem cx_lets {cdv : Value} {A : Around} {outer : List PySem.Env} {s : Shared} {H : Hp} {E : XK} : Lets (cxOf (L2.CX P w) P w K mg base N qual scope f cdv A outer s H E) E := takes_of rfl rfl rfl rfl
theorem body_readX {os os' : List OD} {vs : List V} {xs : List VD} {xx : XV} {H : Hp} {E : XK} {S : Hp} {M : List Addr} {Dn : Ends} (hS : Ex S H) (hv : RvAll K S M vs xs) (ho : OwnA K S H M os) (hM : M.Nodup) (hn : xs.length ≤ N.length) (hf : ∀ o ∈ os', o.free) (hl : os'.length = os.length)
    (k : ∀ S' H' cls d, Grow M S H S' H' → IsX K S' H' cls d xx → OwnA K S' H' M os' → E cls d H') : tSX K (env0 N xs os) xx (pn0 os.length os') (fun _ => False) E Dn (L2.start N vs) H := by
  refine ⟨⟨M, S, H⟩, S, M, Rel.start hS hv ho hM hn, fun ρ σ S' H' ad' cls d hp A ix => ?_, fun _ _ _ _ _ z => z.elim⟩
  exact k S' H' cls d A.grow ix (A.finish (ho.len.trans hl.symm) (by rw [hl]; exact hp) hf)
theorem fnX_D (F : FunD K x qual params body scope [] [] f fd) (sc : FnScope N ps scope) (hb : Binds K fd ps []) (hlen : ∀ xs os r os', R xs os r os' → xs.length = ps.length ∧ os'.length = os.length ∧ ∀ o ∈ os', o.free)
    (hbody : ∀ (cdv : Value) (A : Around) (outer : List PySem.Env) (s : Shared) (H : Hp) (E : XK), Room j (A.deeper (envOfC qual scope s.heap.objs.size f cdv)) → ∀ xs os r os', R xs os r os' → (∀ o ∈ os, o.free) →
      SXs (cxOf (L2.CX P w) P w K mg base N qual scope f cdv A outer s H E) E (env0 N xs os) body r (pn0 os.length os') (fun _ => False)) : FnR P w K mg base (L2.CX P w) (j + 1) f (spX K R) := by
  have F1 : FnOk P w K mg base (L2.CX P w) (j + 1) f fd ps (spX K R) := by
    refine F.ok sc (fun vs H Q E h => ?_) (fun cdv A outer s H vs Q E hr h => ?_)
    · obtain ⟨S, M, xs, os, rr, os', _, hv, _, _, h5, _⟩ := h
      rw [hv.length]; exact (hlen _ _ _ _ h5).1
    · obtain ⟨S, M, xs, os, rr, os', h1, hv, ho, hM, h5, hf, k⟩ := h
      obtain ⟨l1, l2, l3⟩ := hlen _ _ _ _ h5
      refine ⟨_, hbody cdv A outer s H E hr xs os rr os' h5 hf, body_readX h1 hv ho hM ?_ l3 l2 k⟩
      have := congrArg List.length sc.pre
      rw [List.length_take] at this
      omega
  have F2 := F1.raw hb (dvs := []) .nil
  refine F2.imp fun vs H Q E h => ?_
  rw [List.append_nil]; exact h
end
/-! ### more expressions with a part that raises -/
section
variable {X : Cx} {E : XK} {ρ ρ' ρ0 ρ1 ρ2 ρ3 : Env} {e a b c fe : Expr} {es : List Expr} {v y z : VD} {xs ys : List VD} {pos apos cpos pp : Pos} {p q : Bool} {ds ds' dt : List D} {u u' d d' w : D} {n m : Str} {R : XSpec} {x : XV} {C : Addr} {nms : List Str} {fxs : List VD} {os os' : List OD} {ns : List Nat} {o : Nat}
/-- f(e, ..), an instance that is called -/
structure XOs (P : Program) (w : World) (K : PySem.W.Frag) (mg : Str → Option Value) (base : Heap) (A : Around) (C : Addr) (m : Str) (R : XSpec) : Prop where
  ex : ∃ f j, FnR P w K mg base (L2.CX P w) j f (spX K R) ∧ Room (j + 1) A ∧ PySem.W.findIn K (.ref C) m = some (some (.ref f)) ∧ PySem.W.isFn K (.ref f) = true ∧ PySem.W.selfFirst K C = true
end
end DL

namespace DL
open PySem PySem.Spec PyProof.Rows L2 LamX
/-! ### mirrors of what is raised -/
/-- an exception: its class by name, its fields -/
structure XN where
  nm : Str
  ns : List Str
  ds : List D
def XN.xv (G : Str → Addr) (x : XN) : XV := ⟨G x.nm, x.ns, x.ds⟩
/-- the first that is something -/
def orX {α : Type} : Option α → Option α → Option α
  | some x, _ => some x
  | none, b => b
theorem orX_or {α : Type} {a b : Option α} {t : α} (h : orX a b = some t) : a = some t ∨ b = some t := by
  cases a with
  | none => exact .inr h
  | some y => exact .inl h
@[simp] theorem orX_some {α : Type} {x : α} {b : Option α} : orX (some x) b = some x := rfl
@[simp] theorem orX_none {α : Type} {b : Option α} : orX none b = b := rfl
/-- an int of moderate size -/
def dSmall : D → Option Int
  | .int i => if i.natAbs < 10 ^ 64 then some i else none
  | _ => none
theorem dSmall_ok {d : D} {i : Int} (h : dSmall d = some i) : d = .int i ∧ i.natAbs < 10 ^ 64 := by
  cases d <;> simp only [dSmall] at h <;> first | cases h | skip
  split at h
  · cases h; exact ⟨rfl, by assumption⟩
  · cases h
section
variable {X : Cx} {E : XK} {ρ ρ' ρ0 ρ1 ρ2 ρ3 : Env} {e a b c tg iter elt : Expr} {es rest ifs : List Expr} {v y z : VD} {xs ys : List VD} {pos apos cpos pp : Pos} {p q : Bool} {st : Stmt} {r body orelse : List Stmt} {ds ds' : List D} {u u' d d' w : D} {n m : Str} {x : XV} {P N : Env → Prop} {vs : List Nat}
theorem sx_ifM {τ : Type} {A B : Option τ} {t : τ} (hc : TD X ρ c p ρ1) (h : cond p A B = some t) (ha : A = some t → SXs X E ρ1 body x P (fun ρ' => SXs X E ρ' r x P N)) (hb : B = some t → SXs X E ρ1 orelse x P (fun ρ' => SXs X E ρ' r x P N)) : SXs X E ρ (.If c body orelse pos :: r) x P N := by
  cases p with
  | true => exact sx_if hc (fun _ => ha (ct h)) (fun z => nomatch z)
  | false => exact sx_if hc (fun z => nomatch z) (fun _ => hb (cf h))
end
/-! ### what is told of a closure -/
def tellM {τ : Type} (x : Option (XN × τ)) (su : XN → Option D) (m : Option (D × τ)) : Option (D × τ) := match x with
  | some (x, t) => (su x).bind fun r => some (r, t)
  | none => m
theorem tellM_or {τ : Type} {x : Option (XN × τ)} {su : XN → Option D} {m : Option (D × τ)} {r : D} {t : τ} (h : tellM x su m = some (r, t)) : (∃ xn, x = some (xn, t) ∧ su xn = some r) ∨ m = some (r, t) := by
  cases x with
  | none => exact .inr h
  | some y =>
    obtain ⟨xn, t'⟩ := y
    obtain ⟨r', h1, h2⟩ := bnd h
    cases h2
    exact .inl ⟨xn, rfl, h1⟩
/-! ### a def that makes closures: its code object is known -/
section
variable {P : Program} {w : World} {K : PySem.W.Frag} {mg : Str → Option Value} {base : Heap} {x qual : Str} {params : Arguments} {body : List Stmt} {scope : Scope} {f : Addr} {fd : FuncData} {N ps : List Str} {j : Nat} {R : FSpec}
theorem fn_DLok (F : FunD K x qual params body scope [] [] f fd) (sc : FnScope N ps scope) (hlen : ∀ xs os r os', R xs os r os' → xs.length = ps.length ∧ os'.length = os.length ∧ ∀ o ∈ os', o.free)
    (hbody : ∀ (A : Around) (outer : List PySem.Env) (s : Shared) (H : Hp) (E : XK), Room j (A.deeper (envOfC qual scope s.heap.objs.size f (.ref (codeA K f)))) → ∀ xs os r os', R xs os r os' → (∀ o ∈ os, o.free) →
      SDs (cxOf CX0 P w K mg base N qual scope f (.ref (codeA K f)) A outer s H E).nox (env0 N xs os) body (kn0 os.length r os')) : FnOk P w K mg base CX0 (j + 1) f fd ps (spF K R) := by
  obtain ⟨oc, od, dV, kV, doc, pm, an, cdv, ct, osl, rfl, lk, hcd, _, _⟩ := F.ex
  have ec : cdv = .ref (codeA K f) := by
    unfold codeA
    rw [lk]
    cases cdv <;> first | rfl | (simp [PySem.W.codeIn] at hcd)
  subst ec
  refine fn_of lk hcd sc (fun vs H Q E h => ?_) (fun A outer s H vs Q E hr h => ?_)
  · obtain ⟨S, M, xs, os, rr, os', _, hv, _, _, h5, _⟩ := h
    rw [hv.length]; exact (hlen _ _ _ _ h5).1
  · obtain ⟨S, M, xs, os, rr, os', h1, hv, ho, hM, h5, hf, k⟩ := h
    obtain ⟨l1, l2, l3⟩ := hlen _ _ _ _ h5
    refine ⟨_, (hbody A outer s H E hr xs os rr os' h5 hf).nox, body_read h1 hv ho hM ?_ l3 l2 k⟩
    have := congrArg List.length sc.pre
    rw [List.length_take] at this
    omega
end
end DL

namespace DL
open PySem PySem.Spec PyProof.Rows L2
section
variable {X : Cx} {ρ ρ' ρ0 ρ1 ρ2 ρ3 : Env} {e a b c : Expr} {es : List Expr} {x y z : VD} {xs ys : List VD} {pos apos cpos pp : Pos} {p q : Bool} {ds ds' : List D} {u u' d d' w : D} {m m' : DM} {n : Nat}
/-! ### d[k] as a target among others -/
/-! ### a <= b < c -/
/-! ### an object of ours is looked at: as data while an expression runs whose value is flat -/
/-- None, a truth value, an int, a text -/
def D.flt : D → Bool
  | .non => true | .bl _ => true | .int _ => true | .str _ => true
  | _ => false
/-- such a one, or a list of such -/
def dFlat : D → Option D
  | .lst ds => if ds.all D.flt = true then some (.lst ds) else none
  | d => if d.flt = true then some d else none
theorem sc_rp {K : PySem.W.Frag} {S S' : Hp} {v : V} {d : D} (hs : d.flt = true) (h : Rp K S v d) : Rp K S' v d := by
  cases h with
  | non => exact .non
  | bl b => exact .bl b
  | int i => exact .int i
  | str x => exact .str x
  | _ => exact absurd hs (by simp [D.flt])
theorem sc_all {K : PySem.W.Frag} {S S' : Hp} : ∀ {vs : List V} {ds : List D}, ds.all D.flt = true → RpAll K S vs ds → RpAll K S' vs ds
  | _, _, _, .nil => .nil
  | _, _, h, .cons a b => by
    simp only [List.all_cons, Bool.and_eq_true] at h
    exact .cons (sc_rp h.1 a) (sc_all h.2 b)
section
variable {K : PySem.W.Frag} {fr : Fr} {σ : L2.St} {S H H' : Hp} {ad : List Addr}
/-- the heap went on, what stood stands -/
theorem Rel.later (R : Rel K fr ρ σ S H ad) (kp : ∀ a o, H a = some o → H' a = some o) : Rel K fr ρ σ S H' ad := by
  refine ⟨⟨R.grow.s, fun a o e => kp a o (R.grow.sh a o e), fun a o e hm => kp a o (R.grow.h a o e hm), R.grow.n⟩, R.slots, fun n o e => ?_, R.mm, R.nd, R.len, R.al, R.ml, fun l hl => ?_⟩
  · obtain ⟨l, ho, e1, e2, e3, e4, e5⟩ := R.own n o e
    exact ⟨l, ho, e1, e2, kp l ho e3, e4, e5⟩
  · cases q : H l with
    | none => exact absurd q (R.lv l hl)
    | some u => rw [kp l u q]; simp
/-- an object that is there, and new, is data -/
theorem Rel.addS (R : Rel K fr ρ σ S H ad) {p : Addr} {o : HO} (hS : S p = none) (hp : H p = some o) (hn : p ∉ ad) (hf : fr.H p = none) : Rel K fr ρ σ (upd S p o) H ad ∧ Step S ad (upd S p o) ad := by
  have hst : Step S ad (upd S p o) ad := ⟨.new hS, [], by simp⟩
  refine ⟨⟨⟨R.grow.s.trans hst.s, fun a u e => ?_, R.grow.h, fun a e h1 h2 => ?_⟩, fun i x e => ?_, fun n u e => ?_, R.mm, R.nd, R.len, R.al, R.ml, R.lv⟩, hst⟩
  · by_cases h : a = p
    · subst h; rw [upd_same] at e; cases e; exact hp
    · rw [upd_ne h] at e; exact R.grow.sh a u e
  · have ne : a ≠ p := fun z => h1 (z ▸ hf)
    rw [upd_ne ne]; exact R.grow.n a e h1 h2
  · obtain ⟨v, e1, e2⟩ := R.slots i x e
    exact ⟨v, e1, e2.mono hst⟩
  · obtain ⟨l, ho, e1, e2, e3, e4, e5⟩ := R.own n u e
    have ne : l ≠ p := fun z => hn (z ▸ List.mem_of_getElem? e1)
    exact ⟨l, ho, e1, by rw [upd_ne ne]; exact e2, e3, e4.mono hst, e5⟩
/-- the view: slots of data as they are, those that hold the n-th object as its data d, others forgotten -/
def vwV (n : Nat) (d : D) : Option VD → Option VD
  | some (.d x) => some (.d x)
  | some (.loc j) => if j = n then some (.d d) else none
  | none => none
def Env.vw (ρ : Env) (n : Nat) (d : D) : Env := ⟨0, ρ.sl.map (vwV n d), []⟩
theorem Rel.view {S' H' : Hp} {l : Addr} {d : D} (R : Rel K fr ρ σ S H ad) (hl : ad[n]? = some l) (eS : Ex S S') (eH : Ex S' H') (rp : Rp K S' (.ref l) d) : Rel K ⟨[], S', H'⟩ (ρ.vw n d) σ S' H' [] := by
  refine ⟨⟨.refl _, eH, fun a o e _ => e, fun a e _ _ => e⟩, fun i x e => ?_, fun k o e => ?_, ⟨rfl, rfl⟩, .nil, ?_, rfl, fun k hk => absurd hk (Nat.not_lt_zero _), fun a ha => ?_⟩
  · have e : (ρ.sl.map (vwV n d))[i]? = some (some x) := e
    rw [List.getElem?_map] at e
    cases q : ρ.sl[i]? with
    | none => rw [q] at e; cases e
    | some y =>
      rw [q] at e
      have e : vwV n d y = some x := by simpa using e
      cases y with
      | none => cases e
      | some y =>
        cases y with
        | d z =>
          cases e
          obtain ⟨v, e1, e2⟩ := R.slots i _ q
          exact ⟨v, e1, .d (e2.dd.mono eS)⟩
        | loc j =>
          have e9 : (if j = n then some (VD.d d) else none) = some x := e
          clear e
          by_cases hj : j = n
          · rw [if_pos hj] at e9
            have e8 := Option.some.inj e9
            subst hj e8
            obtain ⟨v, e1, e2⟩ := R.slots i _ q
            obtain ⟨l', f1, f2⟩ := e2.dl
            rw [hl] at f2; cases f2
            subst f1
            exact ⟨_, e1, .d rp⟩
          · rw [if_neg hj] at e9; cases e9
  · have e : ([] : List (Option OD))[k]? = some (some o) := e
    simp at e
  · show (ρ.sl.map (vwV n d)).length = σ.length
    rw [List.length_map]; exact R.len
  · cases ha
/-- behind the look: a flat value -/
theorem look_back {S1 H1 S2 H2 H3 : Hp} {l : Addr} {o1 : HO} {v : V} {w w' : D} {Q : VK} (R : Rel K fr ρ σ S H ad) (g : Grow [] S1 H1 S2 H2) (hS1 : S1 = upd S l o1) (h1 : ∀ a, a ≠ l → H1 a = H a) (h3 : ∀ a, a ≠ l → H3 a = H2 a) (hl3 : H3 l = H l) (hal : ad[n]? = some l) (hf : dFlat w = some w') (rp : Rp K S2 v w) (hne : ∀ ds, w = .lst ds → v ≠ .ref l)
    (hq : ∀ S', Step S ad S' ad → Rel K fr ρ σ S' H3 ad → Rv K S' ad v (.d w) → Q v H3) : Q v H3 := by
  have kp : ∀ a o, H a = some o → H3 a = some o := fun a o e => by
    by_cases ha : a = l
    · subst ha; rw [hl3]; exact e
    · rw [h3 a ha]; exact g.h a o (by rw [h1 a ha]; exact e) (by simp)
  have R3 := R.later kp
  by_cases hs : w.flt = true
  · exact hq S (.refl _ _) R3 (.d (sc_rp hs rp))
  · cases w with
    | lst ds =>
      simp only [dFlat] at hf
      split at hf
      · rename_i hall
        cases rp with
        | @lst a vs _ sq ra =>
          have hal2 : a ≠ l := fun z => hne ds rfl (by rw [z])
          rcases sq with sq | sq
          · have key : ∀ o, S2 a = some o → (∀ xs, o ≠ .tup xs) → ∃ S', Step S ad S' ad ∧ Rel K fr ρ σ S' H3 ad ∧ S' a = some o := fun o e ht => by
              cases q : S a with
              | some u =>
                have e1 : S1 a = some u := by rw [hS1, upd_ne hal2]; exact q
                have e2 := g.s a u e1
                rw [e] at e2; cases e2
                exact ⟨S, .refl _ _, R3, q⟩
              | none =>
                have e1 : S1 a = none := by rw [hS1, upd_ne hal2]; exact q
                have hH : H a = none := by
                  cases q2 : H a with
                  | none => rfl
                  | some u =>
                    have hz := g.n a e1 (by rw [h1 a hal2, q2]; simp) (fun xs z => ?_)
                    · rw [e] at hz; cases hz
                    · have z2 := g.h a _ z (by simp)
                      have z3 := g.sh a o e
                      rw [z2] at z3; cases z3
                      exact ht xs rfl
                have hH3 : H3 a = some o := by rw [h3 a hal2]; exact g.sh a o e
                obtain ⟨R4, st⟩ := R3.addS (p := a) (o := o) q hH3 (fun z => R.lv a z hH) (R.fr0 hH)
                exact ⟨_, st, R4, upd_same⟩
            rcases sq with sq | ⟨ob, sq⟩
            · obtain ⟨S', st, R4, e⟩ := key _ sq (fun xs z => by cases z)
              exact hq S' st R4 (.d (.lst (.inl (.inl e)) (sc_all hall ra)))
            · obtain ⟨S', st, R4, e⟩ := key _ sq (fun xs z => by cases z)
              exact hq S' st R4 (.d (.lst (.inl (.inr ⟨ob, e⟩)) (sc_all hall ra)))
          · exact hq S (.refl _ _) R3 (.d (.lst (.inr sq) (sc_all hall ra)))
      · cases hf
    | _ => first | exact absurd rfl hs | (simp [dFlat, D.flt] at hf)
end
end
end DL

namespace DL
open PySem PySem.Spec PyProof.Rows L2
section
variable {X : Cx} {ρ ρ' ρ0 ρ1 ρ2 ρ3 : Env} {e a b c : Expr} {pos : Pos} {p q : Bool} {d w : D} {C : Addr} {nms : List Str} {fxs : List VD} {R : FSpec} {os os' : List OD} {o : Nat}
end
end DL

namespace DL
open PySem PySem.Spec PyProof.Rows L2
/-! ### what the head tells of exception classes, as Bools -/
section
variable {K : PySem.W.Frag} {C CS : Addr} {f : Str}
theorem xc0B_ok (h : xc0B K C = true) : XC0 K C := by
  unfold xc0B at h
  simp only [Bool.and_eq_true, decide_eq_true_eq] at h
  exact ⟨h.1, h.2.1, h.2.2.1, h.2.2.2⟩
theorem oexB_ok (h : oexB K C = true) : OexC K C := by
  unfold oexB at h
  simp only [Bool.and_eq_true, decide_eq_true_eq] at h
  obtain ⟨h0, h1, h2, h3, h4⟩ := h
  refine ⟨?_, h1, h2, h3, h4⟩
  split at h0
  · rename_i dd cd sl ho
    split at h0
    · rename_i C' bm k0 k1 k2 k3 n k5 hm hs
      simp only [Bool.and_eq_true, beq_iff_eq, Bool.not_eq_true'] at h0
      obtain ⟨rfl, rfl, hdel, hd, hr⟩ := h0
      obtain ⟨nm, bs, mro, ns, qn, hdi, sn, sub, ab, col, del⟩ := cd
      dsimp only at hm hdel hd
      subst hm hdel hd
      obtain ⟨l⟩ := sl
      simp only at hs
      subst hs
      exact ⟨nm, qn, ns, bs, bm, sn, sub, ab, col, dd, k0, k1, k2, k3, k5, ho, hr⟩
    · cases h0
  · cases h0
theorem isXB_ok (h : isXB K C = true) : L2.ExcC K C := by
  unfold isXB at h
  simp only [Bool.and_eq_true, decide_eq_true_eq] at h
  obtain ⟨h1, h2, h3, h4, h5, h6, h7, h8⟩ := h
  exact ⟨h1, h2, h3, h4, h5, h6, h7, h8⟩
theorem isXf (h : isXB K C = true) : XfC K C := by
  have := isXB_ok h
  exact ⟨this.hg, this.hk, this.hs, this.hd⟩
theorem baseB_ok {mg : Str → Option Value} {n : Str} (hm : mg n = some (.ref CS)) (h : baseB K CS = true) : BaseC K mg n := by
  unfold baseB at h
  simp only [Bool.and_eq_true, decide_eq_true_eq] at h
  obtain ⟨h1, h2, h3⟩ := h
  refine ⟨CS, .type "type", hm, h1, h2, ?_⟩
  split at h3
  · rename_i v e
    rw [e, beq_iff_eq.mp h3]
  · cases h3
end
end DL

namespace DL
open PySem PySem.Spec PyProof.Rows L2
theorem EX.to {X : Cx} {E : XK} {ρ ρ1 ρ2 : Env} {e : Expr} {x : XV} (h : EX X E ρ e x ρ1) (e2 : ρ1 = ρ2) : EX X E ρ e x ρ2 := e2 ▸ h
/-! ### which class an exception has, by a list of names -/
def isL (L : List (Str × Str × Bool)) (a b : Str) : Option Bool := (L.find? fun p => p.1 == a && p.2.1 == b).bind fun p => some p.2.2
theorem isL_ok {L : List (Str × Str × Bool)} {a b : Str} {v : Bool} (h : isL L a b = some v) : (a, b, v) ∈ L := by
  obtain ⟨⟨a', b', v'⟩, h1, h2⟩ := bnd h
  cases h2
  have h3 := List.find?_some h1
  have h4 := List.mem_of_find?_eq_some h1
  simp only [Bool.and_eq_true, beq_iff_eq] at h3
  obtain ⟨rfl, rfl⟩ := h3
  exact h4
def inL (L : List Str) (a : Str) : Option Unit := if a ∈ L then some () else none
theorem inL_ok {L : List Str} {a : Str} {u : Unit} (h : inL L a = some u) : a ∈ L := by
  unfold inL at h
  split at h
  · assumption
  · cases h
def xFld (x : XN) (f : Str) : Option D := (x.ns.zip x.ds).lookup f
/-- the suite of a def's try -/
def tryS : List Stmt → List Stmt
  | .Try _ [.ExceptHandler _ _ su _] _ _ _ :: _ => su
  | _ => []
/-- the name of a lambda's code in the def q -/
abbrev lamQ (q : Str) : Str := q ++ ".<locals>." ++ "<lambda>"
end DL

namespace DL
open PySem PySem.Spec PyProof.Rows L2 LamX
/-! ### the end of a law with tables, K being what the head's hook says -/
theorem walk_tab {l : PySem.W.OpenLaw} {n k : Nat} {q : Program} {loose : List Str} {XP : (Str → Option Value) → Heap → Prop} {YP : World → Heap → Prop} {d : DefRec} {CX : World → CXT} {x : Str}
    (hn : l.most = some n) (hn2 : n ≤ sizeLine) (hdf : d.params.defaults = []) (hr : Room k callerA)
    (F : ∀ (w : World) (mg : Str → Option Value) (fa : Addr) (h : Heap), YP w h → h.Ns mainGlobals mg → mg d.name = some (.ref fa) → ∃ K : PySem.W.Frag, K.In h ∧ LawAtS l w K (CX w) k n x mg fa h)
    (hCX : ∀ (w : World) (H : Hp) (s : Shared) (e : Value) (s' : Shared), CX w [] H s (fun _ _ _ => False) e s' → False) :
    PySem.W.WalkO q loose XP YP l.row.toRowW d [] (fun f vs => PySem.call f vs) := by
  refine Att.attach_callB hn hdf fun w s0 s1 mg mb fa o pm cd doc a vs ns G Y ho hd hcd hmg hobj hints hlen hbits hg => ?_
  obtain ⟨K, KX, fd, cs, sp, h1, h2, h3, h4, h5, h6⟩ := F w mg fa _ Y G.T.g hmg
  exact law_callTs KX G.T.g G.T.b G.T.builtins G.T.nolimit hg h1 h2 h3 G.T.bmain hobj hints (Nat.le_trans hlen hn2) hr h6 h4 (fun H hH hS => h5 H a ns hlen hbits hH hS) fun H e s' => hCX w H s1 e s'
end DL

namespace DL
open PySem PySem.Spec PyProof.Rows L2
/-! ### a list so many times -/
section
variable {X : Cx} {ρ ρ' ρ0 ρ1 ρ2 ρ3 : Env} {e a b c tg iter elt : Expr} {es rest ifs : List Expr} {x y z : VD} {xs ys : List VD} {pos apos cpos pp : Pos} {p q : Bool} {st : Stmt} {r body orelse : List Stmt} {k : Kn} {ds ds' : List D} {u u' d d' w : D} {n : Str} {R : FSpec}
theorem RpAll.times {K : PySem.W.Frag} {S : Hp} {vs : List V} {ds : List D} (h : RpAll K S vs ds) : ∀ n : Nat, RpAll K S (List.replicate n vs).flatten (List.replicate n ds).flatten
  | 0 => .nil
  | n + 1 => by
    rw [List.replicate_succ, List.replicate_succ, List.flatten_cons, List.flatten_cons]
    exact h.append (RpAll.times h n)
/-! ### membership of None, truth values, ints and texts among such -/
def eqF (d e : D) : Bool := match d.sc, e.sc with
  | some a, some b => eqV a b
  | _, _ => false
def dInF (d u : D) : Option Bool := if d.flt = true then (u.seq?).bind fun ds => if ds.all D.flt = true then some (ds.any fun e => eqF e d) else none else none
def dNinF (d u : D) : Option Bool := hasN (dInF d u)
theorem flt_sc {K : PySem.W.Frag} {S : Hp} {v : V} {d : D} (h : Rp K S v d) (hf : d.flt = true) : flatV v = true ∧ d.sc = some v := by
  cases h <;> simp [D.flt] at hf <;> exact ⟨rfl, rfl⟩
theorem any_sc {K : PySem.W.Frag} {S : Hp} {v : V} {d : D} (hv : Rp K S v d) (hf : d.flt = true) : ∀ {vs : List V} {ds : List D}, RpAll K S vs ds → ds.all D.flt = true → vs.all flatV = true ∧ inV v vs = ds.any fun e => eqF e d
  | _, _, .nil, _ => ⟨rfl, rfl⟩
  | _, _, .cons (v := w) (vs := vs) (d := e) (ds := ds) h t, hl => by
    rw [List.all_cons, Bool.and_eq_true] at hl
    obtain ⟨i1, i2⟩ := any_sc hv hf t hl.2
    obtain ⟨j1, j2⟩ := flt_sc h hl.1
    obtain ⟨k1, k2⟩ := flt_sc hv hf
    refine ⟨by rw [List.all_cons, j1, i1]; rfl, ?_⟩
    show (eqV w v || vs.any fun y => eqV y v) = (eqF e d || ds.any fun e => eqF e d)
    have i2 : (vs.any fun y => eqV y v) = ds.any fun e => eqF e d := i2
    rw [i2]
    unfold eqF
    rw [j2, k2]
theorem td_ninF (ha : ED X ρ a (.d d) ρ1) (hb : ED X ρ1 b (.d u) ρ2) (h0 : dNinF d u = some p) (hm : behindInMarks .NotIn b = false := by rfl) : TD X ρ (.Compare a [.NotIn] [b] pos) p ρ2 := by
  obtain ⟨p0, h, hp⟩ := bnd h0
  clear h0
  cases hp
  unfold dInF at h
  split at h
  · rename_i hf
    obtain ⟨ds, h1, h2⟩ := bnd h
    split at h2
    · rename_i hs
      cases h2
      refine td_of (pt_cmpR op_notIn_seq ha hb hm) fun σ H Q hk => td_two σ H Q _ hk fun fr S ad S1 H1 ad1 v1 v2 A st r1 r2 Q' kk => ?_
      obtain ⟨l, vs, e1, e2, e3⟩ := r2.dd.seq h1
      obtain ⟨g1, g2⟩ := any_sc r1.dd hf e3 hs
      refine ⟨l, vs, e1, e2.imp (ex_l A.grow.sh) (ex_t A.grow.sh), (flt_sc r1.dd hf).1, g1, ?_⟩
      rw [g2]
      exact kk S1 H1 ad1 (.refl _ _) A
    · cases h2
  · cases h
/-! ### sorted of a dict's keys -/
def dSortK (d : D) : Option D := (decDic d).bind fun m => if m.length < 64 then some (.lst ((sortI (m.map fun p => p.1)).map D.int)) else none
theorem RK.keys {K : PySem.W.Frag} {S : Hp} : ∀ {kvs : List (Key × V)} {m : DM}, RK K S kvs m → kvs.map (fun p => p.1) = (m.map fun p => p.1).map Sum.inl
  | [], [], _ => rfl
  | (k, v) :: r, (i, d) :: m, h => by
    obtain ⟨h1, _, h3⟩ := h
    rw [List.map_cons, List.map_cons, List.map_cons, RK.keys h3, h1]
  | [], _ :: _, h => h.elim
  | (_, _) :: _, [], h => h.elim
theorem cb_sortK (hc : X.calm = true) (h : dSortK d = some w) : CBR X (.builtin "sorted") ρ [.d d] (.d w) ρ := by
  obtain ⟨m, h1, h2⟩ := bnd h
  split at h2
  · rename_i hl
    cases h2
    have e := decDic_ok h1
    subst e
    refine ⟨_, call_sortedDI hc, fun fr σ S H ad vs Q A r0 k => ?_⟩
    obtain ⟨v, rfl, r⟩ := rv1 r0
    obtain ⟨l, o, kvs, f1, f2, f3⟩ := r.dd.dic_inv
    refine ⟨l, kvs, m.map fun p => p.1, by rw [f1], .inr ⟨o, A.grow.sh _ _ f2⟩, f3.keys, by rw [List.length_map]; exact hl, fun ys p hp hs hn => ?_⟩
    have e : ys = sortI (m.map fun p => p.1) := sorted_uni (hp.trans (sortI_perm _).symm) hs (sortI_sorted _)
    subst e
    obtain ⟨A2, st2⟩ := A.newS (o := .lst ((sortI (m.map fun p => p.1)).map V.int)) hn
    exact k _ _ ad _ st2 A2 (.d (.lst (SqL.of upd_same) (RpAll.of_ints _)))
  · cases h2
end
end DL

namespace DL
open PySem PySem.Spec PyProof.Rows L2 LamX
/-! ### comprehensions whose block is entered from a frame that is known -/
section
variable {X : Cx} {pins : List (Addr × Obj)} {σ : L2.St}
/-- of the block's contexts, entered while the frame of X stands -/
abbrev BlkI (X : Cx) (pins : List (Addr × Obj)) (σ : L2.St) (scope : Scope) (P : Cx → Prop) : Prop :=
  ∀ (s : Shared) (H : Hp) (C : Addr) (cl : List (Str × Addr)) (fp : List Addr), Inv X pins σ H s → (∀ b ∈ fp, FpOk X pins H b) → P (X.blk s H scope (compEnvC scope cl C X.env) fp)
variable {elt tg iter : Expr} {ifs : List Expr} {scope : Scope} {own : List (Str × Nat)} {g : L2.TG} {tt : TT} {te : TE}
end
end DL

namespace DL
open PySem PySem.Spec PyProof.Rows L2 LamX
/-! ### closures that are called within a comprehension's block: the maker's frame as it was when the block began -/
def dOnly : List (Option VD) → List (Option VD)
  | [] => []
  | some (.d d) :: r => some (.d d) :: dOnly r
  | _ :: r => none :: dOnly r
theorem dOnly_length : ∀ l : List (Option VD), (dOnly l).length = l.length
  | [] => rfl
  | some (.d _) :: r => by show (dOnly r).length + 1 = r.length + 1; rw [dOnly_length r]
  | some (.loc _) :: r => by show (dOnly r).length + 1 = r.length + 1; rw [dOnly_length r]
  | none :: r => by show (dOnly r).length + 1 = r.length + 1; rw [dOnly_length r]
/-- the data that the slots hold -/
def SlD (K : PySem.W.Frag) (sl : List (Option VD)) (σ : L2.St) (S : Hp) : Prop := sl.length = σ.length ∧ ∀ (i : Nat) x, (dOnly sl)[i]? = some (some x) → ∃ v d, x = .d d ∧ σ[i]? = some (some v) ∧ Rp K S v d
theorem SlD.mono {K : PySem.W.Frag} {sl : List (Option VD)} {σ : L2.St} {S S' : Hp} (e : Ex S S') (h : SlD K sl σ S) : SlD K sl σ S' := ⟨h.1, fun i x hx => by
  obtain ⟨v, d, h1, h2, h3⟩ := h.2 i x hx
  exact ⟨v, d, h1, h2, h3.mono e⟩⟩
abbrev envD (sl : List (Option VD)) : Env := ⟨0, dOnly sl, []⟩
theorem SlD.rel {K : PySem.W.Frag} {sl : List (Option VD)} {σ : L2.St} {S H : Hp} (h : SlD K sl σ S) (e : Ex S H) : Rel K ⟨[], S, H⟩ (envD sl) σ S H [] := by
  refine ⟨⟨.refl _, e, fun a o z _ => z, fun a z _ _ => z⟩, fun i x hx => ?_, fun n o z => ?_, ⟨rfl, rfl⟩, .nil, ?_, rfl, fun n hn => ?_, fun l hl => ?_⟩
  · obtain ⟨v, d, rfl, h2, h3⟩ := h.2 i x hx
    exact ⟨v, h2, .d h3⟩
  · have z : ([] : List (Option OD))[n]? = some (some o) := z
    simp at z
  · show (dOnly sl).length = _
    rw [dOnly_length]; exact h.1
  · exact absurd hn (Nat.not_lt_zero _)
  · cases hl
section
variable {X : Cx} {ρ2 ρc : Env} {e b : Expr} {v : VD} {i je : Nat} {x a en xc : Str} {g : Addr} {k : Nat} {pg : Arguments} {sg scope bsc : Scope} {Ng : List Str} {ps : Arguments} {ws : List V} {c : Value} {xx : XV}
  {pins : List (Addr × Obj)} {σ : L2.St} {H : Hp} {s : Shared} {p1 p2 p3 p4 p5 p6 p7 np hp tp p pos : Pos} {b0 : Stmt} {suite : List Stmt} {j0 j1 : Nat} {rd : D} {C : Addr} {cl : List (Str × Addr)} {fp : List Addr} {sl : List (Option VD)}
end
/-! ### the comprehension: no item is kept -/
/-- what a block's turn knows of an item -/
def D.mk (K : PySem.W.Frag) (sl : List (Option VD)) (σ : L2.St) : D → D
  | .lam i φ => .lam i fun S f => φ S f ∧ SlD K sl σ S
  | d => d
theorem Rp.mk {K : PySem.W.Frag} {S : Hp} {v : V} {d : D} {sl : List (Option VD)} {σ : L2.St} (h : Rp K S v d) (hs : SlD K sl σ S) : Rp K S v (d.mk K sl σ) := by
  cases h with
  | lam i hφ => exact .lam i fun S' e => ⟨hφ S' e, hs.mono e⟩
  | non => exact .non
  | bl b => exact .bl b
  | int b => exact .int b
  | str b => exact .str b
  | byt b => exact .byt b
  | lst a b => exact .lst a b
  | tup a b => exact .tup a b
  | ins a b c => exact .ins a b c
  | dic a b c => exact .dic a b c
  | dit a b c => exact .dit a b c
  | ktp a b => exact .ktp a b
  | ref a => exact .ref a
  | ty a => exact .ty a
section
variable {X : Cx} {ρ ρ1 : Env} {elt tg iter : Expr} {ifs : List Expr} {scope : Scope} {own : List (Str × Nat)} {ds : List D} {gv : List Nat} {pos : Pos}
end
end DL

namespace DL
open PySem PySem.Spec PyProof.Rows L2
/-! ### a def with *rest that raises -/
section
variable {P : Program} {w : World} {K : PySem.W.Frag} {mg : Str → Option Value} {base : Heap} {x qual : Str} {params : Arguments} {body : List Stmt} {scope : Scope} {f : Addr} {fd : FuncData} {N : List Str} {j : Nat} {R : XSpec} {p1 pv : Str}
end
/-! ### the items of a comprehension over closures -/
section
variable {X : Cx} {scope : Scope} {gv vs : List Nat} {ρ1 : Env} {tg : Expr} {ifs : List Expr} {d : D} {ds : List D}
end
/-! ### isinstance(x, (A, B)), built-in types -/
section
variable {X : Cx} {ρ : Env} {d : D} {p : Bool}
theorem cb_isi2 {t T U : String} {b1 b2 : Bool} (ht : d.tyn = some t) (h1 : kitB t T = some b1) (h2 : kitB t U = some b2) : CBR X (.builtin "isinstance") ρ [.d d, .d (.tup [.ty T, .ty U])] (.d (.bl (b1 || b2))) ρ := ⟨_, call_isiT, fun fr σ S H ad vs Q A r0 k => by
  obtain ⟨v, w, rfl, r1, r2⟩ := rv2 r0
  obtain ⟨l, ws, rfl, e2, e3⟩ := r2.dd.tup_at
  have ew : ws = [.ty T, .ty U] := by
    cases e3 with
    | cons a b =>
      cases b with
      | cons b c => cases c; cases a; cases b; rfl
  subst ew
  refine ⟨v, l, _, _, [.type T, .type U], b1 || b2, rfl, A.grow.sh _ _ e2, .cons (.ty T) (.cons (.ty U) .nil), r1.dd.ty_ A.grow.sh ht, ?_, k S H ad _ (.refl _ _) A (.d (.bl _))⟩
  unfold PySem.W.kitAny
  rw [kit_ty h1]
  cases b1 with
  | true => rfl
  | false =>
    show PySem.W.kitAny _ _ [_] = _
    unfold PySem.W.kitAny
    rw [kit_ty h2]
    cases b2 with
    | true => rfl
    | false => rfl⟩
theorem cb_isi2M {T U : String} {f g : Kd → Bool} (hT : ∀ k : Kd, kitB k.nm T = some (f k)) (hU : ∀ k : Kd, kitB k.nm U = some (g k)) (h : dIsi (fun k => f k || g k) d = some p) : CBR X (.builtin "isinstance") ρ [.d d, .d (.tup [.ty T, .ty U])] (.d (.bl p)) ρ := by
  obtain ⟨k, h1, h⟩ := bnd h
  cases h
  exact cb_isi2 (kd_tyn h1) (hT k) (hU k)
end
theorem EX.from {X : Cx} {E : XK} {ρ ρ0 ρ1 : Env} {e : Expr} {x : XV} (h : ρ = ρ0) (h2 : EX X E ρ0 e x ρ1) : EX X E ρ e x ρ1 := h ▸ h2
end DL

namespace DL
open PySem PySem.Spec PyProof.Rows L2
section
variable {X : Cx} {E : XK} {ρ ρ' ρ0 ρ1 ρ2 ρ3 : Env} {e a b c tg iter elt : Expr} {ifs : List Expr} {scope : Scope} {pos : Pos} {x : XV}
end
/-! ### a < b <= c < d -/
section
variable {X : Cx} {ρ : Env} {a b c e : Expr} {pos : Pos} {ta tb tc td : TE} {r1 r2 r3 : R2} {o1 o2 o3 : CmpOp} {d d' d2 d3 : D} {p q t : Bool}
end
/-! ### len of a dict of ours -/
section
variable {X : Cx} {ρ : Env} {m : DM}
theorem RK.len {K : PySem.W.Frag} {S : Hp} {kvs : List (Key × V)} {m : DM} (h : RK K S kvs m) : kvs.length = m.length := by
  have := congrArg List.length h.keys
  simpa using this
end
end DL

namespace DL
open PySem PySem.Spec PyProof.Rows L2
/-! ### min and max of a dict whose keys are ints -/
section
variable {X : Cx} {ρ : Env} {d w : D}
/-- a dict's keys, met one by one -/
structure KeyWalk (X : Cx) (s : Shared) (a : Addr) (is : List Int) (vs : List (Key × Value)) (ep : Nat) : Prop where
  sys : (a == sysModules) = false
  dat : s.heap.DictAt (mixKind X.prog X.w) a vs ep
  lt : a < s.heap.objs.size
  len : vs.length = is.length
  val : ∀ (i : Nat) (v : Value), (∃ k x, vs[i]? = some (k, x) ∧ (mixKind X.prog X.w).is k v = true) → ∃ t, v = Value.int (is.getD i 0) t
end
end DL

namespace DL
open PySem PySem.Spec PyProof.Rows L2
/-! ### d.items(), of a dict that is data: list(..), sorted(..) -/
section
variable {X : Cx} {ρ ρ1 : Env} {d w : D} {e : Expr} {apos pos : Pos} {m : DM}
/-- pairs that are there are data -/
theorem Rel.pairs {K : PySem.W.Frag} {fr : Fr} {ρ : Env} {σ : L2.St} {H : Hp} {ad : List Addr} : ∀ {ts : List Addr} {kvs : List (Key × V)} {m : DM} {S : Hp}, Rel K fr ρ σ S H ad → RK K S kvs m → Paired (fun (t : Addr) (q : Key × V) => H t = some (.tup [kV q.1, q.2])) ts kvs →
    ∃ S', Rel K fr ρ σ S' H ad ∧ Step S ad S' ad ∧ RpAll K S' (ts.map V.ref) (m.map fun p => .tup [.int p.1, p.2])
  | _, _, [], S, R, _, .nil => ⟨S, R, .refl _ _, .nil⟩
  | _, _, _ :: _, S, R, h, .nil => h.elim
  | _, _, [], S, R, h, .cons _ _ => h.elim
  | t :: ts, (k, v) :: kvs, (i, d) :: m, S, R, h, .cons g r => by
    obtain ⟨h1, h2, h3⟩ := h
    subst h1
    obtain ⟨S1, R1, st1, e1⟩ := R.tupS g
    obtain ⟨S2, R2, st2, e2⟩ := Rel.pairs R1 (h3.mono st1.s) r
    refine ⟨S2, R2, st1.trans st2, .cons ?_ e2⟩
    exact .tup (st2.s _ _ e1) (.cons (.int i) (.cons (h2.mono (st1.trans st2).s) .nil))
/-- sorted(d.items()), keys and values small -/
def small (ps : List IP) : Prop := ∀ q ∈ ps, 0 ≤ q.1 ∧ q.1 < 64 ∧ 0 ≤ q.2 ∧ q.2 < 64
instance (ps : List IP) : Decidable (small ps) := inferInstanceAs (Decidable (∀ q ∈ ps, 0 ≤ q.1 ∧ q.1 < 64 ∧ 0 ≤ q.2 ∧ q.2 < 64))
end
end DL

namespace DL
open PySem PySem.Spec PyProof.Rows L2
/-! ### an instance that is called, and raises -/
section
variable {X : Cx} {E : XK} {ρ ρ1 ρ2 : Env} {e fe : Expr} {es : List Expr} {xs : List VD} {pos : Pos} {ds dt : List D} {ns : List Str} {C : Addr} {R : XSpec} {x : XV}
structure XCs (P : Program) (w : World) (K : PySem.W.Frag) (mg : Str → Option Value) (base : Heap) (A : Around) (C : Addr) (R : XSpec) : Prop where
  ex : ∃ f j, FnR P w K mg base (L2.CX P w) j f (spX K R) ∧ Room j A ∧ StX.CallO K C f
end
end DL

namespace DL
open PySem PySem.Spec PyProof.Rows L2
/-! ### range with a step, walked -/
section
variable {X : Cx} {ρ ρ1 ρ2 ρ3 : Env} {a b c tg : Expr} {pos : Pos} {d d' d2 : D} {ds : List D}
/-! ### sorted(set(ints)) -/
end
end DL

namespace DL
open PySem PySem.Spec PyProof.Rows L2
/-! ### targets with a star -/
section
variable {prog : Program} {w : World} {A : Around} {E : Value → Shared → Prop} {s : Shared}
end
section
variable {X : Cx} {ρ ρ' : Env} {a b : Expr} {vs : List Nat} {ds : List D} {d : D} {ps pos : Pos} {kk : Nat}
variable {e : Expr} {r : List Stmt} {k : Kn} {n m : Str} {p1 p2 pp : Pos} {d0 x y : D} {ρ1 : Env}
end
end DL

/-! ### what a run does not wake it leaves as it is: generators that sleep may be exchanged -/
namespace GX
open PySem
open Sem (wp)
/-- never goes on -/
def stuck : Resume → Sem PySem.Fin := fun _ => .unsupported "never woken"
/-- at the places of B the left one is stuck and looks like the right one; elsewhere they are equal and bear no generator's frame -/
def GRel (B : Nat → Prop) (j : Nat) (x y : GenState) : Prop :=
  (B j ∧ ∃ k l l' c p fs cl cl', x = .suspended stuck l c p fs cl ∧ y = .suspended k l' c p fs cl') ∨
  (¬ B j ∧ x = y ∧ ∀ k l c p fs cl, x = .suspended k l c p fs cl → splitAtGen fs = none)
structure RG (B : Nat → Prop) (G G' : Array GenState) : Prop where
  sz : G'.size = G.size
  at_ : ∀ j x, G[j]? = some x → ∃ y, G'[j]? = some y ∧ GRel B j x y
  b : ∀ j, B j → j < G.size
theorem GRel.seen {B : Nat → Prop} {j : Nat} {x y : GenState} (h : GRel B j x y) : y.seen = x.seen := by
  rcases h with ⟨_, k, l, l', c, p, fs, cl, cl', rfl, rfl⟩ | ⟨_, rfl, _⟩ <;> rfl
/-- the places of B stay -/
def Kept (B : Nat → Prop) (G G1 : Array GenState) : Prop := ∀ j, B j → G1[j]? = G[j]?
theorem Kept.refl {B : Nat → Prop} (G : Array GenState) : Kept B G G := fun _ _ => rfl
theorem Kept.trans {B : Nat → Prop} {G G1 G2 : Array GenState} (a : Kept B G G1) (b : Kept B G1 G2) : Kept B G G2 := fun j hj => (b j hj).trans (a j hj)
theorem set_get {G : Array GenState} {g j : Nat} {x : GenState} : (G.setIfInBounds g x)[j]? = if g = j ∧ g < G.size then some x else G[j]? := by
  rw [Array.getElem?_setIfInBounds]
  by_cases h : g = j
  · subst h
    by_cases h2 : g < G.size
    · simp [h2]
    · simp [h2]
  · simp [h]
/-- another generator changes its state -/
theorem RG.set {B : Nat → Prop} {G G' : Array GenState} (h : RG B G G') {g : Nat} (hg : ¬ B g) {x : GenState} (hx : ∀ k l c p fs cl, x = .suspended k l c p fs cl → splitAtGen fs = none) : RG B (G.setIfInBounds g x) (G'.setIfInBounds g x) := by
  refine ⟨by simp [h.sz], fun j y hy => ?_, fun j hj => by have := h.b j hj; simpa using this⟩
  rw [set_get] at hy ⊢
  by_cases e : g = j ∧ g < G.size
  · rw [if_pos e] at hy
    cases hy
    obtain ⟨rfl, e2⟩ := e
    rw [if_pos ⟨rfl, by rw [h.sz]; exact e2⟩]
    exact ⟨x, rfl, .inr ⟨hg, rfl, hx⟩⟩
  · rw [if_neg e] at hy
    rw [if_neg (by rw [h.sz]; exact e)]
    exact h.at_ j y hy
theorem Kept.set {B : Nat → Prop} {G G1 : Array GenState} (h : Kept B G G1) {g : Nat} (hg : ¬ B g) (x : GenState) : Kept B G (G1.setIfInBounds g x) := fun j hj => by
  rw [set_get, if_neg (fun (e : g = j ∧ g < G1.size) => hg (e.1 ▸ hj))]
  exact h j hj
theorem RG.push {B : Nat → Prop} {G G' : Array GenState} (h : RG B G G') (c : Code) : RG B (G.push (.fresh c)) (G'.push (.fresh c)) := by
  refine ⟨by simp [h.sz], fun j y hy => ?_, fun j hj => by have := h.b j hj; simp; omega⟩
  rw [Array.getElem?_push] at hy ⊢
  rw [h.sz]
  by_cases e : j = G.size
  · rw [if_pos e] at hy ⊢
    cases hy
    exact ⟨_, rfl, .inr ⟨fun z => by have := h.b j z; omega, rfl, fun k l c p fs cl z => by cases z⟩⟩
  · rw [if_neg e] at hy ⊢
    exact h.at_ j y hy
theorem Kept.push {B : Nat → Prop} {G G' : Array GenState} (h : RG B G G') (c : Code) : Kept B G (G.push (.fresh c)) := fun j hj => by
  have := h.b j hj
  rw [Array.getElem?_push, if_neg (by omega)]
theorem RG.notB {B : Nat → Prop} {G G' : Array GenState} (h : RG B G G') {g : Nat} {x : GenState} (hx : G[g]? = some x) (hn : ∀ k l c p fs cl, x ≠ .suspended k l c p fs cl) : ¬ B g ∧ G'[g]? = some x := by
  obtain ⟨y, hy, ⟨_, k, l, l', c, p, fs, cl, cl', e, _⟩ | ⟨h1, h2, _⟩⟩ := h.at_ g x hx
  · exact absurd e (hn _ _ _ _ _ _)
  · subst h2; exact ⟨h1, hy⟩
/-- no generator's frame in what it suspends -/
def EndOk : End → Prop
  | .ret _ => True
  | .susp _ _ _ _ _ _ fs => splitAtGen fs = none
theorem EndOk.gs {e : End} (h : EndOk e) : ∀ k l c p fs cl, e.genState = .suspended k l c p fs cl → splitAtGen fs = none := by
  intro k l c p fs cl z
  cases e with
  | ret r => cases z
  | susp v g l k c p fs => cases z; exact h
theorem split_app {a b : List Frame} (h : splitAtGen a = none) (h2 : splitAtGen b = none) : splitAtGen (a ++ b) = none := by
  rw [splitAtGen_append_none b h, h2]; rfl
theorem split_ret {k h g l c p kp} {st : List Frame} (hs : splitAtGen (.ret k h g l c p kp :: st) = none) : splitAtGen st = none := by
  rw [splitAtGen_ret] at hs
  cases q : splitAtGen st with
  | none => rfl
  | some x => rw [q] at hs; cases hs
theorem no_run_unsup {M : Model} {Γ : Ctx} {p : Pos} {m : String} {fs : List Frame} {s s' : Shared} {e : End} (h : Runs M Γ p (.unsupported m) fs s e s') : False := by
  generalize ht : (Sem.unsupported m : Sem PySem.Fin) = t at h
  induction h with
  | segRet h1 h2 ih1 ih2 => exact ih1 ht
  | segGen h1 h2 ih1 ih2 => exact ih1 ht
  | segSuspOut _ h1 ih1 => exact ih1 ht
  | segSuspGen _ h1 _ h2 ih1 ih2 => exact ih1 ht
  | _ => cases ht
abbrev Sw (s : Shared) (G : Array GenState) : Shared := { s with gens := G }
theorem runs_swap {B : Nat → Prop} {M : Model} {Γ : Ctx} {p : Pos} {t : Sem PySem.Fin} {fs : List Frame} {s s' : Shared} {e : End} (h : Runs M Γ p t fs s e s') :
    splitAtGen fs = none → ∀ G', RG B s.gens G' → ∃ G1, RG B s'.gens G1 ∧ Runs M Γ p t fs (Sw s G') e (Sw s' G1) ∧ Kept B s.gens s'.gens ∧ Kept B G' G1 ∧ EndOk e := by
  induction h with
  | done => exact fun _ G' h => ⟨G', h, .done, .refl _, .refl _, trivial⟩
  | raise => exact fun _ G' h => ⟨G', h, .raise, .refl _, .refl _, trivial⟩
  | again q _ ih => exact fun hs G' h => let ⟨G1, a, b, c⟩ := ih hs G' h; ⟨G1, a, .again q b, c⟩
  | rule _ ih => exact fun hs G' h => let ⟨G1, a, b, c⟩ := ih hs G' h; ⟨G1, a, .rule b, c⟩
  | «at» _ ih => exact fun hs G' h => let ⟨G1, a, b, c⟩ := ih hs G' h; ⟨G1, a, .at b, c⟩
  | load q _ ih => exact fun hs G' h => let ⟨G1, a, b, c⟩ := ih hs G' h; ⟨G1, a, .load q b, c⟩
  | update q _ ih => exact fun hs G' h => let ⟨G1, a, b, c⟩ := ih hs G' h; ⟨G1, a, .update q b, c⟩
  | loadIfAlive _ ih => exact fun hs G' h => let ⟨G1, a, b, c⟩ := ih hs G' h; ⟨G1, a, .loadIfAlive b, c⟩
  | point _ ih => exact fun hs G' h => let ⟨G1, a, b, c⟩ := ih hs G' h; ⟨G1, a, .point b, c⟩
  | alloc _ ih => exact fun hs G' h => let ⟨G1, a, b, c⟩ := ih hs G' h; ⟨G1, a, .alloc b, c⟩
  | fresh _ ih => exact fun hs G' h => let ⟨G1, a, b, c⟩ := ih hs G' h; ⟨G1, a, .fresh b, c⟩
  | ask _ ih => exact fun hs G' h => let ⟨G1, a, b, c⟩ := ih hs G' h; ⟨G1, a, .ask b, c⟩
  | choose q _ ih => exact fun hs G' h => let ⟨G1, a, b, c⟩ := ih hs G' h; ⟨G1, a, .choose q b, c⟩
  | os _ ih => exact fun hs G' h => let ⟨G1, a, b, c⟩ := ih hs G' h; ⟨G1, a, .os b, c⟩
  | handled _ ih => exact fun hs G' h => let ⟨G1, a, b, c⟩ := ih hs G' h; ⟨G1, a, .handled b, c⟩
  | genState q _ ih =>
    intro hs G' h
    obtain ⟨G1, a, b, c⟩ := ih hs G' h
    obtain ⟨y, hy, r⟩ := h.at_ _ _ q
    exact ⟨G1, a, .genState hy (by rw [r.seen]; exact b), c⟩
  | stack _ ih => exact fun hs G' h => let ⟨G1, a, b, c⟩ := ih hs G' h; ⟨G1, a, .stack b, c⟩
  | thread _ ih => exact fun hs G' h => let ⟨G1, a, b, c⟩ := ih hs G' h; ⟨G1, a, .thread b, c⟩
  | newGen _ ih =>
    intro hs G' h
    obtain ⟨G1, a, b, c1, c2, c3⟩ := ih hs _ (h.push _)
    refine ⟨G1, a, .newGen ?_, (Kept.push h _).trans c1, fun j hj => (c2 j hj).trans ?_, c3⟩
    · rw [show (Sw _ G').gens.size = _ from h.sz]
      exact b
    · have := h.b j hj
      rw [Array.getElem?_push, if_neg (by rw [h.sz]; omega)]
  | call _ _ ih1 ih2 =>
    intro hs G' h
    obtain ⟨G1, a, b, c1, c2, _⟩ := ih1 rfl G' h
    obtain ⟨G2, a2, b2, d1, d2, d3⟩ := ih2 hs G1 a
    exact ⟨G2, a2, .call b b2, c1.trans d1, c2.trans d2, d3⟩
  | callSusp _ ih =>
    intro hs G' h
    obtain ⟨G1, a, b, c1, c2, c3⟩ := ih rfl G' h
    exact ⟨G1, a, .callSusp b, c1, c2, split_app c3 rfl⟩
  | yield => exact fun _ G' h => ⟨G', h, .yield, .refl _, .refl _, rfl⟩
  | resumeFresh q _ hq _ ih1 ih2 =>
    intro hs G' h
    obtain ⟨nb, hy⟩ := h.notB q (fun _ _ _ _ _ _ z => by cases z)
    obtain ⟨G1, a, b, c1, c2, c3⟩ := ih1 rfl _ (h.set nb (x := .running) fun _ _ _ _ _ _ z => by cases z)
    obtain ⟨G2, a2, b2, d1, d2, d3⟩ := ih2 hs _ (a.set nb c3.gs)
    exact ⟨G2, a2, .resumeFresh hy b hq b2, ((Kept.refl _).set nb _ |>.trans c1 |>.set nb _).trans d1, ((Kept.refl _).set nb _ |>.trans c2 |>.set nb _).trans d2, d3⟩
  | @resumeSuspended Γ p g r l k s k₀ l₀ c₀ p₀ fs cl e₁ s₁ e s' q r1 hq _ ih1 ih2 =>
    intro hs G' h
    obtain ⟨y, hy, ⟨_, k', l', l2, c', p', fs', cl1, cl2, e1, _⟩ | ⟨nb, rfl, hf⟩⟩ := h.at_ g _ q
    · cases e1
      exact (no_run_unsup r1).elim
    · have hf0 := hf _ _ _ _ _ _ rfl
      obtain ⟨G1, a, b, c1, c2, c3⟩ := ih1 hf0 _ (h.set nb (x := .running) fun _ _ _ _ _ _ z => by cases z)
      obtain ⟨G2, a2, b2, d1, d2, d3⟩ := ih2 hs _ (a.set nb c3.gs)
      exact ⟨G2, a2, .resumeSuspended hy b hq b2, ((Kept.refl _).set nb _ |>.trans c1 |>.set nb _).trans d1, ((Kept.refl _).set nb _ |>.trans c2 |>.set nb _).trans d2, d3⟩
  | resumeJustStarted q hv _ ih =>
    intro hs G' h
    obtain ⟨nb, hy⟩ := h.notB q (fun _ _ _ _ _ _ z => by cases z)
    obtain ⟨G1, a, b, c⟩ := ih hs G' h
    exact ⟨G1, a, .resumeJustStarted hy hv b, c⟩
  | resumeThrowFresh q _ ih =>
    intro hs G' h
    obtain ⟨nb, hy⟩ := h.notB q (fun _ _ _ _ _ _ z => by cases z)
    obtain ⟨G1, a, b, c1, c2, c3⟩ := ih hs _ (h.set nb (x := .finished) fun _ _ _ _ _ _ z => by cases z)
    exact ⟨G1, a, .resumeThrowFresh hy b, ((Kept.refl _).set nb _).trans c1, ((Kept.refl _).set nb _).trans c2, c3⟩
  | resumeRunning q _ ih =>
    intro hs G' h
    obtain ⟨nb, hy⟩ := h.notB q (fun _ _ _ _ _ _ z => by cases z)
    obtain ⟨G1, a, b, c⟩ := ih hs G' h
    exact ⟨G1, a, .resumeRunning hy b, c⟩
  | resumeFinished q _ ih =>
    intro hs G' h
    obtain ⟨nb, hy⟩ := h.notB q (fun _ _ _ _ _ _ z => by cases z)
    obtain ⟨G1, a, b, c⟩ := ih hs G' h
    exact ⟨G1, a, .resumeFinished hy b, c⟩
  | segRet _ _ ih1 ih2 =>
    intro hs G' h
    obtain ⟨G1, a, b, c1, c2, _⟩ := ih1 rfl G' h
    obtain ⟨G2, a2, b2, d1, d2, d3⟩ := ih2 (split_ret hs) G1 a
    exact ⟨G2, a2, .segRet b b2, c1.trans d1, c2.trans d2, d3⟩
  | segGen => intro hs; cases hs
  | segSuspOut q _ ih =>
    intro hs G' h
    obtain ⟨G1, a, b, c1, c2, c3⟩ := ih rfl G' h
    exact ⟨G1, a, .segSuspOut q b, c1, c2, split_app c3 hs⟩
  | segSuspGen q => intro hs; rw [q] at hs; cases hs
/-- exchanged behind a run -/
def SwR (B : Nat → Prop) (G G' : Array GenState) (s0 s' : Shared) : Prop := ∃ G1, s' = Sw s0 G1 ∧ RG B s0.gens G1 ∧ Kept B G s0.gens ∧ Kept B G' G1
theorem SwR.of {B : Nat → Prop} {G G' H H' : Array GenState} {s0 s' : Shared} (a : Kept B G H) (b : Kept B G' H') (h : SwR B H H' s0 s') : SwR B G G' s0 s' := by
  obtain ⟨G1, e, r, c, d⟩ := h
  exact ⟨G1, e, r, a.trans c, b.trans d⟩
theorem wakes_swap {B : Nat → Prop} {M : Model} {Γ : Ctx} {p : Pos} {g : Nat} {r : Resume} {s s' : Shared} {res : GenResult} (h : Wakes M Γ p g r s res s') {G' : Array GenState} (hr : RG B s.gens G') :
    ∃ G1, RG B s'.gens G1 ∧ Wakes M Γ p g r (Sw s G') res (Sw s' G1) ∧ Kept B s.gens s'.gens ∧ Kept B G' G1 := by
  unfold Wakes at h
  cases q : s.gens[g]? with
  | none => rw [q] at h; exact h.elim
  | some x =>
    rw [q] at h
    cases x with
    | fresh c =>
      obtain ⟨nb, hy⟩ := hr.notB q fun _ _ _ _ _ _ z => by cases z
      have hy : (Sw s G').gens[g]? = some (.fresh c) := hy
      unfold Wakes
      rw [hy]
      cases r with
      | send v =>
        cases v with
        | none =>
          obtain ⟨e1, s1, r1, hq, rfl, rfl⟩ := h
          obtain ⟨G1, a, b, c1, c2, c3⟩ := runs_swap r1 rfl _ (hr.set nb (x := .running) fun _ _ _ _ _ _ z => by cases z)
          exact ⟨_, a.set nb c3.gs, ⟨e1, _, b, hq, rfl, rfl⟩, (Kept.refl _).set nb _ |>.trans c1 |>.set nb _, (Kept.refl _).set nb _ |>.trans c2 |>.set nb _⟩
        | _ =>
          obtain ⟨rfl, rfl⟩ := h
          exact ⟨G', hr, ⟨rfl, rfl⟩, .refl _, .refl _⟩
      | throw v =>
        obtain ⟨rfl, rfl⟩ := h
        exact ⟨_, hr.set nb (x := .finished) (fun _ _ _ _ _ _ z => by cases z), ⟨rfl, rfl⟩, (Kept.refl _).set nb _, (Kept.refl _).set nb _⟩
    | suspended k l c p0 fs cl =>
      obtain ⟨e1, s1, r1, hq, rfl, rfl⟩ := h
      obtain ⟨y, hy, ⟨_, k', l', l2, c', p', fs', cl1, cl2, e2, _⟩ | ⟨nb, rfl, hf⟩⟩ := hr.at_ g _ q
      · cases e2
        exact (no_run_unsup r1).elim
      · have hy : (Sw s G').gens[g]? = some (.suspended k l c p0 fs cl) := hy
        unfold Wakes
        rw [hy]
        obtain ⟨G1, a, b, c1, c2, c3⟩ := runs_swap r1 (hf _ _ _ _ _ _ rfl) _ (hr.set nb (x := .running) fun _ _ _ _ _ _ z => by cases z)
        exact ⟨_, a.set nb c3.gs, ⟨e1, _, b, hq, rfl, rfl⟩, (Kept.refl _).set nb _ |>.trans c1 |>.set nb _, (Kept.refl _).set nb _ |>.trans c2 |>.set nb _⟩
    | running =>
      obtain ⟨nb, hy⟩ := hr.notB q fun _ _ _ _ _ _ z => by cases z
      have hy : (Sw s G').gens[g]? = some .running := hy
      obtain ⟨rfl, rfl⟩ := h
      refine ⟨G', hr, ?_, .refl _, .refl _⟩
      unfold Wakes
      rw [hy]
      exact ⟨rfl, rfl⟩
    | finished =>
      obtain ⟨nb, hy⟩ := hr.notB q fun _ _ _ _ _ _ z => by cases z
      have hy : (Sw s G').gens[g]? = some .finished := hy
      obtain ⟨rfl, rfl⟩ := h
      refine ⟨G', hr, ?_, .refl _, .refl _⟩
      unfold Wakes
      rw [hy]
      exact ⟨rfl, rfl⟩
theorem wp_swap {α : Type} {B : Nat → Prop} (M : Model) (Γ : Ctx) (t : Sem α) : ∀ (Q : α → Pos → Shared → Prop) (E : Value → Pos → Shared → Prop) (p : Pos) (s : Shared) (G' : Array GenState), RG B s.gens G' → wp M Γ t Q E p s →
    wp M Γ t (fun a p' s' => ∃ s0, Q a p' s0 ∧ SwR B s.gens G' s0 s') (fun e p' s' => ∃ s0, E e p' s0 ∧ SwR B s.gens G' s0 s') p (Sw s G') := by
  have mono : ∀ {β : Type} {t : Sem β} {Q Q' : β → Pos → Shared → Prop} {E E' : Value → Pos → Shared → Prop} {p : Pos} {s : Shared}, wp M Γ t Q E p s → (∀ a p s, Q a p s → Q' a p s) → (∀ e p s, E e p s → E' e p s) → wp M Γ t Q' E' p s :=
    fun {β t Q Q' E E' p s} h hq he => Sem.wp_mono M Γ t hq he p s h
  induction t with
  | pure a => intro Q E p s G' hr h; exact ⟨s, h, G', rfl, hr, .refl _, .refl _⟩
  | raise e => intro Q E p s G' hr h; exact ⟨s, h, G', rfl, hr, .refl _, .refl _⟩
  | unsupported _ => intro Q E p s G' _ h; exact h
  | finish _ => intro Q E p s G' _ h; exact h
  | rule _ k ih => intro Q E p s G' hr h; exact ih () Q E p s G' hr h
  | «at» p' k ih => intro Q E p s G' hr h; exact ih () Q E p' s G' hr h
  | load a _ k ih => intro Q E p s G' hr h; obtain ⟨o, ho, h⟩ := h; exact ⟨o, ho, ih o Q E p s G' hr h⟩
  | update a _ f k ih => intro Q E p s G' hr h; exact ⟨h.1, ih () Q E p ({ s with heap := s.heap.update a f } : Shared) G' hr h.2⟩
  | loadIfAlive a k ih => intro Q E p s G' hr h; exact ih _ Q E p s G' hr h
  | point _ k ih => intro Q E p s G' hr h; exact ih () Q E p s G' hr h
  | register _ _ => intro Q E p s G' _ h; exact h
  | alloc o k ih => intro Q E p s G' hr h; exact ih _ Q E p { s with heap := s.heap.push o } G' hr h
  | fresh k ih => intro Q E p s G' hr h; exact ih _ Q E p { s with toks := s.toks + 1 } G' hr h
  | ask k ih => intro Q E p s G' hr h; exact ih _ Q E p s G' hr h
  | choose src m k ih => intro Q E p s G' hr h; exact ⟨h.1, ih _ Q E p { s with drawn := s.drawn.bump src } G' hr h.2⟩
  | os q _ k ih => intro Q E p s G' hr h; exact ih _ Q E p { s with os := (Os.step s.os q).1 } G' hr h
  | call c hd _ _ k ih =>
    intro Q E p s G' hr h
    obtain ⟨r, s', h1, h2⟩ := h
    obtain ⟨G1, a, b, c1, c2, _⟩ := runs_swap h1 rfl G' hr
    exact ⟨r, Sw s' G1, b, mono (ih r Q E p s' G1 a h2) (fun _ _ _ ⟨s0, q, w⟩ => ⟨s0, q, w.of c1 c2⟩) fun _ _ _ ⟨s0, q, w⟩ => ⟨s0, q, w.of c1 c2⟩⟩
  | handled own k ih => intro Q E p s G' hr h; exact ih _ Q E p s G' hr h
  | genState g k ih =>
    intro Q E p s G' hr h
    obtain ⟨st, hs, h⟩ := h
    obtain ⟨y, hy, r⟩ := hr.at_ g st hs
    exact ⟨y, hy, by rw [r.seen]; exact ih _ Q E p s G' hr h⟩
  | newGen c k ih =>
    intro Q E p s G' hr h
    have := ih _ Q E p { s with gens := s.gens.push (.fresh c) } _ (hr.push c) h
    have c1 := Kept.push hr c
    have c2 : Kept B G' (G'.push (.fresh c)) := fun j hj => by
      have := hr.b j hj
      rw [Array.getElem?_push, if_neg (by rw [hr.sz]; omega)]
    have e : (Sw s G').gens.size = s.gens.size := hr.sz
    show wp M Γ (k (Sw s G').gens.size) _ _ p _
    rw [e]
    exact mono this (fun _ _ _ ⟨s0, q, w⟩ => ⟨s0, q, w.of c1 c2⟩) fun _ _ _ ⟨s0, q, w⟩ => ⟨s0, q, w.of c1 c2⟩
  | resume g r _ k ih =>
    intro Q E p s G' hr h
    obtain ⟨res, s', hw, h2⟩ := h
    obtain ⟨G1, a, b, c1, c2⟩ := wakes_swap hw hr
    exact ⟨res, Sw s' G1, b, mono (ih res Q E p s' G1 a h2) (fun _ _ _ ⟨s0, q, w⟩ => ⟨s0, q, w.of c1 c2⟩) fun _ _ _ ⟨s0, q, w⟩ => ⟨s0, q, w.of c1 c2⟩⟩
  | yield _ _ _ _ => intro Q E p s G' _ h; exact h
  | stack k ih => intro Q E p s G' hr h; exact ih _ Q E p s G' hr h
  | fork _ _ => intro Q E p s G' _ h; exact h
  | thread k ih => intro Q E p s G' hr h; exact ih _ Q E p s G' hr h
  | await _ _ _ _ _ => intro Q E p s G' _ h; exact h
/-! all that sleep at once -/
def isSusp : GenState → Bool
  | .suspended .. => true
  | _ => false
def lull : GenState → GenState
  | .suspended _ l c p fs cl => .suspended stuck l c p fs cl
  | x => x
theorem rg_lull (G : Array GenState) : RG (fun j => ∃ x, G[j]? = some x ∧ isSusp x = true) (G.map lull) G := by
  refine ⟨by simp, fun j x hx => ?_, fun j ⟨x, hx, _⟩ => by simpa using (Array.getElem?_eq_some_iff.mp hx).1⟩
  rw [Array.getElem?_map] at hx
  cases q : G[j]? with
  | none => rw [q] at hx; cases hx
  | some y =>
    rw [q] at hx
    cases hx
    refine ⟨y, rfl, ?_⟩
    cases y with
    | suspended k l c p fs cl => exact .inl ⟨⟨_, q, rfl⟩, k, l, l, c, p, fs, cl, cl, rfl, rfl⟩
    | fresh c => exact .inr ⟨fun ⟨x, hx, hs⟩ => (by rw [q] at hx; cases hx; cases hs), rfl, fun _ _ _ _ _ _ z => (by cases z)⟩
    | running => exact .inr ⟨fun ⟨x, hx, hs⟩ => (by rw [q] at hx; cases hx; cases hs), rfl, fun _ _ _ _ _ _ z => (by cases z)⟩
    | finished => exact .inr ⟨fun ⟨x, hx, hs⟩ => (by rw [q] at hx; cases hx; cases hs), rfl, fun _ _ _ _ _ _ z => (by cases z)⟩
open PyProof.Rows in
theorem bare_lull {G : Array GenState} (h : AllBare G) : AllBare (G.map lull) := fun y hy => by
  obtain ⟨x, hx, rfl⟩ := Array.mem_map.mp hy
  have := h x hx
  cases x <;> exact this
/-- the generators that slept sleep on -/
def Asleep (G G' : Array GenState) : Prop := ∀ (g : Nat) x, G[g]? = some x → isSusp x = true → G'[g]? = some x
open PyProof.Rows in
/-- A run that goes whatever sleeps leaves what sleeps. -/
theorem wpAny_asleep {α : Type} {M : Model} {A : Around} {t : Sem α} {Q : α → Shared → Prop} {E : Value → Shared → Prop} {s : Shared} (hb : AllBare s.gens) (h : ∀ G, AllBare G → wpAny M A t Q E (Sw s G)) :
    wpAny M A t (fun a s' => ∃ G, Q a (Sw s' G) ∧ (AllBare G → AllBare s'.gens) ∧ Asleep s.gens s'.gens) (fun e s' => ∃ G, E e (Sw s' G) ∧ (AllBare G → AllBare s'.gens) ∧ Asleep s.gens s'.gens) s := by
  intro Γ p hΓ
  have h1 := wp_swap M Γ t _ _ p (Sw s (s.gens.map lull)) s.gens (rg_lull s.gens) (h _ (bare_lull hb) Γ p hΓ)
  have fin : ∀ {s0 s' : Shared}, SwR (fun j => ∃ x, s.gens[j]? = some x ∧ isSusp x = true) (s.gens.map lull) s.gens s0 s' → s0 = Sw s' s0.gens ∧ (AllBare s0.gens → AllBare s'.gens) ∧ Asleep s.gens s'.gens := by
    rintro s0 s' ⟨G1, rfl, r, k1, k2⟩
    refine ⟨rfl, fun hb0 y hy => ?_, fun g x hx hs => (k2 g ⟨x, hx, hs⟩).trans hx⟩
    obtain ⟨j, hj, e⟩ := Array.getElem_of_mem hy
    have hj' : j < s0.gens.size := by rw [← r.sz]; exact hj
    obtain ⟨y', hy', rel⟩ := r.at_ j _ (Array.getElem?_eq_getElem hj')
    have ey : G1[j]? = some y := by rw [Array.getElem?_eq_getElem hj]; exact congrArg some e
    rw [ey] at hy'
    cases hy'
    rcases rel with ⟨⟨x, hx, hs⟩, _⟩ | ⟨_, e2, _⟩
    · have e3 := (k2 j ⟨x, hx, hs⟩).trans hx
      rw [ey] at e3
      cases e3
      exact hb _ (Array.mem_of_getElem? hx)
    · rw [← e2]
      exact hb0 _ (Array.getElem_mem hj')
  refine Sem.wp_mono M Γ t (fun a _ s' ⟨s0, q, w⟩ => ?_) (fun e _ s' ⟨s0, q, w⟩ => ?_) p _ h1
  · obtain ⟨e0, b, c⟩ := fin w
    exact ⟨s0.gens, e0 ▸ q, b, c⟩
  · obtain ⟨e0, b, c⟩ := fin w
    exact ⟨s0.gens, e0 ▸ q, b, c⟩
end GX

/-! ### a generator's run up to its next yield -/
namespace GX
open PySem
open Sem (wp)
abbrev RP := Result → Shared → Prop
abbrev YP := Value → Shared → GenState → Prop
/-- how a piece ends: it is over, or it sleeps as told -/
def PEnd (Rr : RP) (Yy : YP) (e : End) (s : Shared) : Prop := match e with
  | .ret r => Rr r s
  | .susp v g l k c p fs => (End.susp v g l k c p fs).quiet = true ∧ Yy v s (End.susp v g l k c p fs).genState
def S1 (M : Model) (A : Around) (Rr : RP) (Yy : YP) (c : Code) (t : Sem PySem.Fin) (fs : List Frame) (s : Shared) : Prop :=
  ∀ Γ p, Γ.code = c → Γ.Woken A → ∃ e s', Runs M Γ p t fs s e s' ∧ PEnd Rr Yy e s'
section
variable {M : Model} {A : Around} {Rr : RP} {Yy : YP} {c : Code} {fs : List Frame} {s : Shared}
theorem s1_wrap {α : Type} {m : Sem α} {K : α → Sem PySem.Fin} {J : Value → Sem PySem.Fin} {gd lv}
    (h : wpAny M (A.over c fs) m (fun a s' => S1 M A Rr Yy c (K a) fs s') (fun x s' => S1 M A Rr Yy c (J x) fs s') s) : S1 M A Rr Yy c (m.wrap K J gd lv) fs s := by
  rintro Γ p rfl w
  exact runs_wrap_of_wp K J gd lv m (h (Γ.over fs) p (w.over fs)) (fun a q s1 h1 => h1 Γ q rfl w) fun x q s1 h1 => h1 Γ q rfl w
theorem s1_at {q : Pos} {k : Unit → Sem PySem.Fin} (h : S1 M A Rr Yy c (k ()) fs s) : S1 M A Rr Yy c (.at q k) fs s :=
  s1_wrap (m := standAt q) (K := k) (J := .raise) (gd := id) (lv := id) (wpAny_standAt h)
theorem s1_point {l : List Value} {k : Unit → Sem PySem.Fin} (h : S1 M A Rr Yy c (k ()) fs s) : S1 M A Rr Yy c (.point l k) fs s :=
  s1_wrap (m := point) (K := k) (J := .raise) (gd := id) (lv := fun _ => l) (wpAny_point h)
theorem s1_call {c1 : Code} {h g l} {k : Result → Sem PySem.Fin} (hc : ∀ p, S1 M A Rr Yy c1 (M.den c1) (.ret k h g l c p [] :: fs) s) : S1 M A Rr Yy c (.call c1 h g l k) fs s := by
  rintro Γ p rfl w
  obtain ⟨e, s1, a, b⟩ := hc p (Γ.goto c1) p rfl (w.goto c1)
  exact ⟨e, s1, runs_call_seg a, b⟩
theorem s1_leaf {k h g l c1 p1 kp} (r : Result) (hk : S1 M A Rr Yy c1 (k r) fs s) : S1 M A Rr Yy c (leafOf r) (.ret k h g l c1 p1 kp :: fs) s := by
  rintro Γ p rfl w
  obtain ⟨e, s1, a, b⟩ := hk (Γ.goto c1) p1 rfl (w.goto c1)
  exact ⟨e, s1, Runs.pop r a, b⟩
theorem s1_again {c1 : Code} (hq : c1.quiet = true) (hc : S1 M A Rr Yy c1 (M.den c1) fs s) : S1 M A Rr Yy c (.pure (.again c1)) fs s := by
  rintro Γ p rfl w
  obtain ⟨e, s1, a, b⟩ := hc (Γ.goto c1) p rfl (w.goto c1)
  exact ⟨e, s1, Runs.head (c₁ := c1) (fun _ _ x => .again hq x) a, b⟩
theorem s1_end (r : Result) (h : Rr r s) : S1 M A Rr Yy c (leafOf r) [] s := by
  rintro Γ p rfl _
  exact ⟨.ret r, s, Runs.leaf r, h⟩
theorem s1_yield {v g l} {k : Resume → Sem PySem.Fin} (hfs : splitAtGen fs = none) (hg : g = false) (hfg : fs.any Frame.guarded = false) (h : ∀ p, Yy v s (.suspended k l c p fs false)) : S1 M A Rr Yy c (.yield v g l k) fs s := by
  rintro Γ p rfl _
  refine ⟨_, s, Runs.yield' fs hfs, ⟨by simp [End.quiet, hg, hfg], ?_⟩⟩
  have e : (End.susp v g l k Γ.code p fs).genState = .suspended k l Γ.code p fs false := by simp [End.genState, hg, hfg]
  rw [e]
  exact h p
/-! statements -/
variable {env : Env} {K : Flow → Sem PySem.Fin} {J : Value → Sem PySem.Fin} {gd : Bool → Bool} {lv : List Value → List Value}
theorem s1_nil (h : S1 M A Rr Yy c (K .next) fs s) : S1 M A Rr Yy c ((execs [] env).wrap K J gd lv) fs s := h
theorem s1_cons {st : Stmt} {rest : List Stmt} (h : S1 M A Rr Yy c ((exec st env).wrap (fun f => match f with | .next => (execs rest env).wrap K J gd lv | f => K f) J gd lv) fs s) :
    S1 M A Rr Yy c ((execs (st :: rest) env).wrap K J gd lv) fs s := by rw [execs_cons_wrap]; exact h
theorem s1_yieldS {e : Expr} {yp pos : Pos} (hfs : splitAtGen fs = none) (hgd : gd false = false) (hfg : fs.any Frame.guarded = false)
    (h : wpAny M (A.over c fs) (eval e env) (fun v s' => ∀ k l p, (∀ Rr' Yy' s'', S1 M A Rr' Yy' c (K .next) fs s'' → S1 M A Rr' Yy' c (k (.send .none)) fs s'') → Yy v s' (.suspended k l c p fs false)) (fun x s' => S1 M A Rr Yy c (J x) fs s') s)
    (hco : env.scope.isCoroutine = false) (hi : interactive env = false) : S1 M A Rr Yy c ((exec (.Expr (.Yield (some e) yp) pos) env).wrap K J gd lv) fs s := by
  rw [exec_Expr env _ pos hi rfl]
  have hy : ∀ v, yieldOut env v = yieldValue v := fun v => by simp only [yieldOut, hco, Bool.false_eq_true, if_false]
  show S1 M A Rr Yy c (.at pos fun _ => ((eval e env >>= fun v => (standAt yp >>= fun _ => yieldOut env v)) >>= fun x => dropValue (.Yield (some e) yp) pos x).wrap K J gd lv) fs s
  simp only [hy]
  refine s1_at ?_
  rw [Sem.bind_eq_wrap', Sem.bind_eq_wrap', Sem.wrap_wrap, Sem.wrap_wrap]
  refine s1_wrap (wpAny_mono h (fun v s1 h1 => s1_at (s1_yield hfs hgd hfg fun p => h1 _ _ _ fun Rr' Yy' s2 h2 => ?_)) fun _ _ x => x)
  exact h2
/-- what stands behind a loop's call -/
abbrev loopK (env : Env) (K : Flow → Sem PySem.Fin) (J : Value → Sem PySem.Fin) (gd : Bool → Bool) (lv : List Value → List Value) : Result → Sem PySem.Fin :=
  fun r => ((match r with | .ok f => (.pure f : Sem Flow) | .error e => .raise e).onRaise (L2.cameBack env)).wrap K J gd lv
end
/-- a turn's exception -/
abbrev noteK (env : Env) : Value → Sem PySem.Fin := fun e => (do noteFrame e env; theTreesLotGoes e : Sem Unit).wrap (fun _ => .raise e) .raise id id
section
variable {prog : Program} {w : World} {A : Around} {Rr : RP} {Yy : YP} {fs : List Frame} {s : Shared} {env : Env}
theorem s1_func {body : List Stmt}
    (h : S1 (model prog w) A Rr Yy (.func body env) ((execs body env).wrap (fun f => .pure (.done (.ret (match f with | .ret v => v | _ => .none)))) (fun e => (leaving env e).wrap (fun _ => .raise e) .raise id id) id id) fs s) :
    S1 (model prog w) A Rr Yy (.func body env) ((model prog w).den (.func body env)) fs s := by
  show S1 _ A Rr Yy _ (.point [] fun _ => ((execs body env).onRaise (leaving env)) >>= _) fs s
  refine s1_point ?_
  rw [Sem.onRaise_eq_wrap, Sem.bind_eq_wrap', Sem.wrap_wrap]
  refine Eq.mp (congrArg (fun t => S1 _ A Rr Yy _ t fs s) (Sem.wrap_congr (execs body env) _ _ (fun f => ?_) fun e => ?_)) h
  · cases f <;> rfl
  · rw [Sem.bind_eq_wrap, Sem.wrap_wrap]; rfl
theorem s1_bindw {α β : Type} {M : Model} {c : Code} {m : Sem α} {f : α → Sem β} {K : β → Sem PySem.Fin} {J : Value → Sem PySem.Fin} {gd lv}
    (h : wpAny M (A.over c fs) m (fun a s' => S1 M A Rr Yy c ((f a).wrap K J gd lv) fs s') (fun x s' => S1 M A Rr Yy c (J x) fs s') s) : S1 M A Rr Yy c ((m >>= f).wrap K J gd lv) fs s := by
  rw [Sem.bind_eq_wrap', Sem.wrap_wrap]
  exact s1_wrap h
theorem s1_For {M : Model} {c : Code} {K : Flow → Sem PySem.Fin} {J : Value → Sem PySem.Fin} {gd : Bool → Bool} {lv : List Value → List Value} {tg iter : Expr} {body : List Stmt} {pos : Pos}
    (h : wpAny M (A.over c fs) (eval iter env) (fun x s1 => wpAny M (A.over c fs) (pyIter x) (fun it s2 => ∀ p, S1 M A Rr Yy (.forLoop tg it body [] env) (M.den (.forLoop tg it body [] env)) (.ret (loopK env K J gd lv) none (gd false) (lv []) c p [] :: fs) s2)
      (fun x s' => S1 M A Rr Yy c (J x) fs s') s1) (fun x s' => S1 M A Rr Yy c (J x) fs s') s)
    (hs : ∀ x, foldedSetIterable iter env x = pure x) : S1 M A Rr Yy c ((exec (.For tg iter body [] pos) env).wrap K J gd lv) fs s := by
  rw [exec_For]
  refine s1_bindw (wpAny_standAt (s1_bindw (wpAny_mono h (fun x s1 h1 => s1_bindw (wpAny_of_eq (hs x) (s1_bindw (wpAny_standAt (s1_bindw (wpAny_holding (wpAny_mono h1 (fun it s2 h2 => ?_) fun _ _ z => z))))))) fun _ _ z => z)))
  exact s1_call h2
theorem s1_forLoop {tg : Expr} {it : Value} {body : List Stmt}
    (h : wpAny (model prog w) (A.over (.forLoop tg it body [] env) fs) (pyNext it) (fun r s1 => match r with
        | none => ∀ c, S1 (model prog w) A Rr Yy c (.pure (.done .next)) fs s1
        | some v => wpAny (model prog w) (A.over (.forLoop tg it body [] env) fs) (letOwnedTupleGo tg it v) (fun _ s2 => wpAny (model prog w) (A.over (.forLoop tg it body [] env) fs) (assign tg env v) (fun _ s3 =>
            S1 (model prog w) A Rr Yy (.forLoop tg it body [] env) ((execs body env).wrap (fun f => match f with
              | .next | .cont => .pure (.again (.forLoop tg it body [] env)) | .brk => .pure (.done .next) | .ret v => .pure (.done (.ret v))) (noteK env) id id) fs s3)
          (fun x s' => S1 (model prog w) A Rr Yy (.forLoop tg it body [] env) (noteK env x) fs s') s2) (fun x s' => S1 (model prog w) A Rr Yy (.forLoop tg it body [] env) (noteK env x) fs s') s1)
      (fun x s' => S1 (model prog w) A Rr Yy (.forLoop tg it body [] env) (noteK env x) fs s') s) :
    S1 (model prog w) A Rr Yy (.forLoop tg it body [] env) ((model prog w).den (.forLoop tg it body [] env)) fs s := by
  show S1 _ A Rr Yy _ ((forTurn tg it body [] env).onRaise (fun x => do noteFrame x env; theTreesLotGoes x)) fs s
  rw [Sem.onRaise_eq_wrap]
  have eJ : (fun e => ((do noteFrame e env; theTreesLotGoes e : Sem Unit)).bind fun _ => (Sem.raise e : Sem PySem.Fin)) = noteK env := funext fun e => Sem.bind_eq_wrap _ _
  rw [eJ]
  unfold forTurn
  refine s1_bindw (wpAny_standAt (s1_bindw (wpAny_onRaise (wpAny_mono h (fun r s1 h1 => ?_) fun x s1 hx => wpAny_standAt hx))))
  cases r with
  | none => exact s1_again (c1 := .block [] env) rfl (h1 _)
  | some v =>
    refine s1_bindw (wpAny_mono h1 (fun _ s2 h2 => s1_bindw (wpAny_mono h2 (fun _ s3 h3 => ?_) fun _ _ z => z)) fun _ _ z => z)
    rw [Sem.bind_eq_wrap', Sem.wrap_wrap]
    refine Eq.mp (congrArg (fun t => S1 _ A Rr Yy _ t fs s3) (Sem.wrap_congr (execs body env) _ _ (fun f => ?_) fun e => ?_)) h3
    · cases f <;> rfl
    · rfl
end
end GX

/-! ### a generator's statements: between two yields its caller may change what is the caller's -/
namespace GX
open PySem PySem.Spec PyProof.Rows L2 GenW
open DL (Ex)
/-- the objects ahead of L alone -/
def cut (L : Nat) (h : Heap) : Heap := ⟨h.objs.extract 0 L, h.life⟩
theorem cut_size {L : Nat} {h : Heap} (hl : L ≤ h.objs.size) : (cut L h).objs.size = L := by
  show (h.objs.extract 0 L).size = L
  simp; omega
theorem cut_le {L : Nat} {h : Heap} : (cut L h).objs.size ≤ L := by
  show (h.objs.extract 0 L).size ≤ L
  rw [Array.size_extract]; omega
theorem cut_get {L : Nat} {h : Heap} {b : Nat} (hb : b < L) : (cut L h).get? b = h.get? b := by
  have : (h.objs.extract 0 L)[b]? = h.objs[b]? := by
    rw [Array.getElem?_extract]
    by_cases hs : b < h.objs.size
    · rw [if_pos (by omega), Nat.zero_add]
    · rw [if_neg (by omega), Array.getElem?_eq_none (by omega)]
  unfold Heap.get? cut
  simp only [this]
theorem cut_some {L : Nat} {h : Heap} {b : Addr} {o : Obj} (e : (cut L h).get? b = some o) : b < L ∧ h.get? b = some o := by
  have h1 : b < L := Nat.lt_of_lt_of_le (Heap.lt_size e) cut_le
  exact ⟨h1, by rw [← cut_get h1]; exact e⟩
def cutH (L : Nat) (H : Hp) : Hp := fun b => if b < L then H b else none
theorem cutH_lt {L : Nat} {H : Hp} {b : Addr} (h : b < L) : cutH L H b = H b := if_pos h
theorem cutH_some {L : Nat} {H : Hp} {b : Addr} {o : HO} (h : cutH L H b = some o) : b < L ∧ H b = some o := by
  unfold cutH at h
  split at h
  · exact ⟨by assumption, h⟩
  · cases h
/-- a generator's run: all that is fixed through it -/
structure Fm where
  P : Program
  w : World
  K : PySem.W.Frag
  mg : Str → Option Value
  base : Heap
  N : List Str
  qual : Str
  scope : Scope
  f : Addr
  cd : Value
  A : Around
  outer : List PySem.Env
  /-- what is wanted of its exception, by the yields so far and by what stood and was tracked when it was woken -/
  E : Nat → Hp → Hp → XK
  pn : List (Addr × Obj)
  L : Nat
abbrev Fm.s0 (Φ : Fm) (s : Shared) : Shared := { s with heap := cut Φ.L s.heap }
/-- its context, since it was woken with s, H -/
abbrev Fm.X (Φ : Fm) (s : Shared) (H : Hp) : Cx := gcxOf Φ.P Φ.w Φ.K Φ.mg Φ.base Φ.N Φ.qual Φ.scope Φ.f Φ.cd Φ.A Φ.outer (Φ.s0 s) (cutH Φ.L H) (fun _ _ _ => False) Φ.pn
/-- the same, its exceptions leave it -/
abbrev Fm.Z (Φ : Fm) (i : Nat) (s : Shared) (S H : Hp) : Cx := gcxOf Φ.P Φ.w Φ.K Φ.mg Φ.base Φ.N Φ.qual Φ.scope Φ.f Φ.cd Φ.A Φ.outer (Φ.s0 s) (cutH Φ.L H) (Φ.E i S H) Φ.pn
def Fm.e0 (Φ : Fm) : PySem.Env := envOfC Φ.qual Φ.scope Φ.L Φ.f Φ.cd
def Fm.A0 (Φ : Fm) : Around := Φ.A.deeper Φ.e0
section
variable {Φ : Fm} {s s' : Shared} {H H' : Hp}
theorem Fm.env (h : Φ.L ≤ s.heap.objs.size) : (Φ.X s H).env = Φ.e0 := by
  show envOfC Φ.qual Φ.scope (cut Φ.L s.heap).objs.size Φ.f Φ.cd = _
  rw [cut_size h]; rfl
theorem Fm.ar (h : Φ.L ≤ s.heap.objs.size) : (Φ.X s H).A = Φ.A0 := by
  show Φ.A.deeper (envOfC Φ.qual Φ.scope (cut Φ.L s.heap).objs.size Φ.f Φ.cd) = _
  rw [cut_size h]; rfl
/-- since it was woken with s₀, H₀ -/
def Fm.I (Φ : Fm) (s₀ : Shared) (H₀ : Hp) (ip : List (Addr × Obj)) (σ : L2.St) (H : Hp) (s : Shared) : Prop :=
  Φ.L ≤ s₀.heap.objs.size ∧ (∀ p ∈ Φ.pn ++ ip, Φ.L ≤ p.1) ∧ Inv (Φ.X s₀ H₀) ip σ H s
/-- its own things: its frame, its cells, its iterators -/
def Fm.Own (Φ : Fm) (ip : List (Addr × Obj)) (b : Addr) : Prop := b = Φ.L ∨ (∃ x, Φ.e0.cells.lookup x = some b) ∨ ∃ p ∈ Φ.pn ++ ip, p.1 = b
/-- what its caller leaves as it is while it sleeps -/
structure Wake (Φ : Fm) (ip : List (Addr × Obj)) (s s' : Shared) (H' : Hp) : Prop where
  env : Env0 Φ.P Φ.w Φ.K Φ.mg Φ.base Φ.A Φ.outer s' H'
  keep : ∀ b o, Φ.L ≤ b → Φ.Own ip b → s.heap.get? b = some o → s'.heap.get? b = some o ∧ H' b = none
theorem funs_cut {n : Nat} {h base : Heap} : ∀ {l : List PySem.Env}, h.FunFrames base l → (∀ b ∈ frs l, b < n) → (cut n h).FunFrames base l
  | [], _, _ => trivial
  | env :: r, hl, hb => by
    obtain ⟨hk, ⟨L, o, hf, hn, ho, hd⟩, hr⟩ := hl
    have h1 : frs (env :: r) = L :: frs r := by unfold frs; rw [List.filterMap_cons, hf]
    exact ⟨hk, ⟨L, o, hf, hn, by rw [cut_get (hb L (by rw [h1]; simp))]; exact ho, hd⟩, funs_cut hr fun b hb' => hb b (by rw [h1]; simp [hb'])⟩
/-- woken anew -/
theorem rebase {s₀ : Shared} {H₀ : Hp} {ip : List (Addr × Obj)} {σ : L2.St} (h : Φ.I s₀ H₀ ip σ H s) (w : Wake Φ ip s s' H') : Φ.I s' H' ip σ H' s' := by
  obtain ⟨hl, hp, I⟩ := h
  have e1 : (Φ.X s₀ H₀).env = Φ.e0 := Fm.env (H := H₀) hl
  have eL : (Φ.X s₀ H₀).env.locals = Φ.L := by rw [e1]; rfl
  have hLs : Φ.L ≤ s'.heap.objs.size := by
    obtain ⟨m, ⟨o, _, _, ho, _⟩, _⟩ := I.loc
    rw [eL] at ho
    exact Nat.le_of_lt (Heap.lt_size (w.keep Φ.L o (Nat.le_refl _) (.inl rfl) ho).1)
  have e2 : (Φ.X s' H').env = Φ.e0 := Fm.env hLs
  have cellL : ∀ x c, Φ.e0.cells.lookup x = some c → Φ.L ≤ c := fun x c e => by
    have := I.ok.cab x c rfl (by rw [e1]; exact e)
    have h2 : (Φ.X s₀ H₀).s_0.heap.objs.size = Φ.L := cut_size hl
    rw [h2] at this; exact this
  have fsL : ∀ b ∈ frs Φ.outer, b < Φ.L := fun b hb => by
    obtain ⟨_, o, ho, _⟩ := I.ok.funs.mem hb
    exact (cut_some ho).1
  have hL0 : ∀ o, s.heap.get? Φ.L = some o → s'.heap.get? Φ.L = some o ∧ H' Φ.L = none := fun o ho => w.keep _ o (Nat.le_refl _) (.inl rfl) ho
  refine ⟨hLs, hp, ⟨⟨w.env.mod, I.ok.kind, rfl, rfl, ?_, ?_, ?_, ?_, I.ok.hd, ?_, .inr ⟨rfl, rfl⟩, fun b z => (by cases z), fun b o e => ?_, ?_, fun b o e z => (by cases z), fun b z => (by cases z), ?_, fun b hb => ?_⟩, rfl, w.env.bare, ?_, ?_, ?_, ?_, ?_, ?_, w.env.hok, I.len⟩⟩
  · rw [e2]
    show (cut Φ.L s'.heap).objs.size ≤ Φ.L
    exact cut_le
  · rw [e2, ← e1]; exact I.ok.inj
  · intro x hx
    have := I.ok.has x (by rw [e1]; rw [e2] at hx; exact hx)
    rw [e2, ← e1]; exact this
  · intro x c _ e
    rw [e2] at e
    show (cut Φ.L s'.heap).objs.size ≤ c
    exact Nat.le_trans cut_le (cellL x c e)
  · rw [Fm.ar hLs, ← Fm.ar (s := s₀) (H := H₀) hl, show (Φ.X s' H').stack = (Φ.X s₀ H₀).stack from by show (Φ.X s' H').env :: _ = (Φ.X s₀ H₀).env :: _; rw [e1, e2]]
    exact I.ok.frames
  · obtain ⟨h1, h2⟩ := I.ok.bs b o e
    obtain ⟨h3, _⟩ := cut_some h1
    obtain ⟨h4, h5⟩ := w.env.bs b o e
    exact ⟨by show (cut Φ.L s'.heap).get? b = _; rw [cut_get h3]; exact h4, by show cutH Φ.L H' b = none; rw [cutH_lt h3]; exact h5⟩
  · have := I.ok.bsz
    have h2 : (Φ.X s₀ H₀).s_0.heap.objs.size = Φ.L := cut_size hl
    have h3 : (Φ.X s' H').s_0.heap.objs.size = Φ.L := cut_size hLs
    rw [h3, ← h2]; exact this
  · exact funs_cut w.env.funs fsL
  · show cutH Φ.L H' b = none
    rw [cutH_lt (fsL b hb)]
    exact w.env.frf b hb
  · refine ⟨fun b o e n _ _ => (cut_some e).2, fun b o e n _ _ => ⟨o.slots, (cut_some e).2⟩, fun b o e n _ => ?_, fun b o e _ => ⟨o, (cut_some e).2⟩, fun b xs e => (cutH_some e).2, fun b o u e => (cutH_some e).2, fun b ps e => ⟨#[], by rw [(cutH_some e).2]; simp⟩⟩
    have : cutH Φ.L H' b = none := n
    rw [cutH_lt (cut_some e).1] at this
    exact this
  · obtain ⟨m, ⟨o, es, ep, ho, r⟩, hl'⟩ := I.loc
    rw [eL] at ho
    rw [e2]
    refine ⟨m, ⟨o, es, ep, (hL0 o ho).1, r⟩, fun i x v q1 q2 q3 => ?_⟩
    obtain ⟨u, r1, l1⟩ := hl' i x v q1 q2 (by rw [e1]; exact q3)
    rw [e1] at l1
    refine ⟨u, r1, ?_⟩
    rcases l1 with l1 | ⟨k1, c, q4, q5⟩
    · exact .inl l1
    · obtain ⟨o2, q6, q7⟩ := q5
      exact .inr ⟨k1, c, q4, o2, (w.keep c o2 (cellL x c q4) (.inr (.inl ⟨x, q4⟩)) q6).1, q7⟩
  · intro x c e
    rw [e2] at e
    obtain ⟨v, o2, q6, q7⟩ := I.cell x c (by rw [e1]; exact e)
    exact ⟨v, o2, (w.keep c o2 (cellL x c e) (.inr (.inl ⟨x, e⟩)) q6).1, q7⟩
  · obtain ⟨m, ⟨o, es, ep, ho, r⟩, _⟩ := I.loc
    rw [eL] at ho
    rw [e2]
    exact (hL0 o ho).2
  · intro x c e
    rw [e2] at e
    obtain ⟨v, o2, q6, q7⟩ := I.cell x c (by rw [e1]; exact e)
    exact (w.keep c o2 (cellL x c e) (.inr (.inl ⟨x, e⟩)) q6).2
  · intro q hq
    obtain ⟨q1, q2, q3, q4, q5⟩ := I.pin q hq
    obtain ⟨q6, q7⟩ := w.keep q.1 q.2 (hp q hq) (.inr (.inr ⟨q, hq, rfl⟩)) q1
    exact ⟨q6, q7, by rw [e2]; rw [e1] at q3; exact q3, q4, q5⟩
end
/-! ### the brief -/
/-- tot: how many yields there may be (behind the last one it is not woken); yl: what each is; fin: the end. S₀, H₀: what stood for good and what was tracked when it was woken -/
structure Brf where
  tot : Nat
  yl : Hp → Hp → List V → V → Hp → Hp → Prop
  fin : Hp → Hp → List V → Hp → Prop
def RrP (Φ : Fm) (B : Brf) (ys : List V) (S₀ H₀ : Hp) (s₀ : Shared) : RP := fun r s1 =>
  ((r = .ok (.ret .none) ∨ r = .ok .next) ∧ ∃ ip σ H1, Φ.I s₀ H₀ ip σ H1 s1 ∧ B.fin S₀ H₀ ys H1) ∨
  ∃ e, r = .error e ∧ CX Φ.P Φ.w Φ.outer (cutH Φ.L H₀) (Φ.s0 s₀) (Φ.E ys.length S₀ H₀) e s1 ∧ ∀ p ∈ Φ.pn, s1.heap.get? p.1 = some p.2
def GoesP (M : Model) (A : Around) (gs : GenState) (s : Shared) (Rr : RP) (Yy : YP) : Prop := match gs with
  | .fresh c => S1 M A Rr Yy c (M.den c) [] s
  | .suspended k _ c _ fs _ => S1 M A Rr Yy c (k (.send .none)) fs s
  | _ => False
/-- asleep behind ys, to be woken up to n times -/
def Rsm (Φ : Fm) (B : Brf) : Nat → GenState → List V → List (Addr × Obj) → Hp → Shared → Prop
  | 0, _, _, _, _, _ => True
  | n + 1, gs, ys, ip, S, s => ∀ s' S' H', Ex S S' → Ex S' H' → Wake Φ ip s s' H' → GoesP (model Φ.P Φ.w) Φ.A gs s' (RrP Φ B ys S' H' s') fun v s2 gs2 =>
      ∃ x ip2 σ2 S2 H2, RelV x v ∧ Φ.I s' H' ip2 σ2 H2 s2 ∧ B.yl S' H' ys x S2 H2 ∧ Ex S2 H2 ∧ Rsm Φ B n gs2 (ys ++ [x]) ip2 S2 s2
def YPn (Φ : Fm) (B : Brf) (n : Nat) (ys : List V) (S₀ H₀ : Hp) (s₀ : Shared) : YP := fun v s2 gs2 =>
  ∃ x ip2 σ2 S2 H2, RelV x v ∧ Φ.I s₀ H₀ ip2 σ2 H2 s2 ∧ B.yl S₀ H₀ ys x S2 H2 ∧ Ex S2 H2 ∧ Rsm Φ B (n - 1) gs2 (ys ++ [x]) ip2 S2 s2
/-- what is wanted behind a statement -/
structure GEn where
  nx : Hp → Hp → List V → L2.St → Hp → Prop
  rt : Hp → Hp → List V → V → Hp → Prop
  bk : Hp → Hp → List V → L2.St → Hp → Prop := fun _ _ _ _ _ => False
  ct : Hp → Hp → List V → L2.St → Hp → Prop := fun _ _ _ _ _ => False
def GEn.at (D : GEn) (S₀ H₀ : Hp) (ys : List V) : Ends := { nx := D.nx S₀ H₀ ys, rt := D.rt S₀ H₀ ys, bk := D.bk S₀ H₀ ys, ct := D.ct S₀ H₀ ys }
abbrev TGn := GEn → Hp → Hp → List V → L2.St → Hp → Prop
def GSP (Φ : Fm) (S₀ H₀ : Hp) (s₀ : Shared) (ip : List (Addr × Obj)) (D : GEn) (ys : List V) (fl : Flow) (s : Shared) : Prop := match fl with
  | .next => ∃ σ H, Φ.I s₀ H₀ ip σ H s ∧ D.nx S₀ H₀ ys σ H
  | .brk => ∃ σ H, Φ.I s₀ H₀ ip σ H s ∧ D.bk S₀ H₀ ys σ H
  | .cont => ∃ σ H, Φ.I s₀ H₀ ip σ H s ∧ D.ct S₀ H₀ ys σ H
  | .ret u => ∃ v σ H, Φ.I s₀ H₀ ip σ H s ∧ RelV v u ∧ D.rt S₀ H₀ ys v H
structure GC (Φ : Fm) (c : Code) (fs : List Frame) (gd : Bool → Bool) : Prop where
  over : Φ.A.over c fs = Φ.A0
  split : splitAtGen fs = none
  guard : fs.any Frame.guarded = false
  gd : gd false = false
structure GK (Φ : Fm) (B : Brf) (ip : List (Addr × Obj)) (c : Code) (fs : List Frame) (K : Flow → Sem PySem.Fin) (J : Value → Sem PySem.Fin) (D : GEn) : Prop where
  ok : ∀ (n : Nat) (ys : List V) (S₀ H₀ : Hp) (s₀ s : Shared) (fl : Flow), n + ys.length = B.tot → GSP Φ S₀ H₀ s₀ ip D ys fl s → S1 (model Φ.P Φ.w) Φ.A (RrP Φ B ys S₀ H₀ s₀) (YPn Φ B n ys S₀ H₀ s₀) c (K fl) fs s
  exc : ∀ (n : Nat) (ys : List V) (S₀ H₀ : Hp) (s₀ s : Shared) (e : Value), Φ.L ≤ s₀.heap.objs.size → (Φ.Z ys.length s₀ S₀ H₀).xe e s → S1 (model Φ.P Φ.w) Φ.A (RrP Φ B ys S₀ H₀ s₀) (YPn Φ B n ys S₀ H₀ s₀) c (J e) fs s
/-- what lets nothing out lets it out here too -/
theorem Fm.up {Φ : Fm} {i : Nat} {s s' : Shared} {S H : Hp} {e : Value} (h : (Φ.X s H).xe e s') : (Φ.Z i s S H).xe e s' := by
  refine wpAny_mono h (fun _ s'' q => ?_) fun _ _ z => z
  obtain ⟨⟨_, _, _, _, _, _, _, _, _, _, _, _, z⟩, _⟩ := q
  exact z.elim
theorem GK.excX {Φ : Fm} {B : Brf} {ip : List (Addr × Obj)} {c : Code} {fs : List Frame} {K : Flow → Sem PySem.Fin} {J : Value → Sem PySem.Fin} {D : GEn} (k : GK Φ B ip c fs K J D) (n : Nat) (ys : List V) (S₀ H₀ : Hp) (s₀ s : Shared) (e : Value) (hl : Φ.L ≤ s₀.heap.objs.size) (h : (Φ.X s₀ H₀).xe e s) :
    S1 (model Φ.P Φ.w) Φ.A (RrP Φ B ys S₀ H₀ s₀) (YPn Φ B n ys S₀ H₀ s₀) c (J e) fs s := k.exc n ys S₀ H₀ s₀ s e hl (Fm.up h)
structure GS (Φ : Fm) (B : Brf) (st : Stmt) (t : TGn) : Prop where
  run : ∀ (n : Nat) (ys : List V) (S₀ H₀ : Hp) (s₀ : Shared) (ip : List (Addr × Obj)) (c : Code) (fs : List Frame) (K : Flow → Sem PySem.Fin) (J : Value → Sem PySem.Fin) (gd : Bool → Bool) (lv : List Value → List Value) (s : Shared) (σ : L2.St) (H : Hp) (D : GEn),
    GC Φ c fs gd → n + ys.length = B.tot → GK Φ B ip c fs K J D → Φ.I s₀ H₀ ip σ H s → t D S₀ H₀ ys σ H →
    S1 (model Φ.P Φ.w) Φ.A (RrP Φ B ys S₀ H₀ s₀) (YPn Φ B n ys S₀ H₀ s₀) c ((exec st Φ.e0).wrap K J gd lv) fs s
structure GSs (Φ : Fm) (B : Brf) (st : List Stmt) (t : TGn) : Prop where
  run : ∀ (n : Nat) (ys : List V) (S₀ H₀ : Hp) (s₀ : Shared) (ip : List (Addr × Obj)) (c : Code) (fs : List Frame) (K : Flow → Sem PySem.Fin) (J : Value → Sem PySem.Fin) (gd : Bool → Bool) (lv : List Value → List Value) (s : Shared) (σ : L2.St) (H : Hp) (D : GEn),
    GC Φ c fs gd → n + ys.length = B.tot → GK Φ B ip c fs K J D → Φ.I s₀ H₀ ip σ H s → t D S₀ H₀ ys σ H →
    S1 (model Φ.P Φ.w) Φ.A (RrP Φ B ys S₀ H₀ s₀) (YPn Φ B n ys S₀ H₀ s₀) c ((execs st Φ.e0).wrap K J gd lv) fs s
section
variable {Φ : Fm} {B : Brf} {st : Stmt} {rest : List Stmt}
/-- a statement that hands out nothing -/
def tPl (t : Hp → Hp → TS) : TGn := fun D S₀ H₀ ys σ H => t S₀ H₀ (D.at S₀ H₀ ys) σ H
theorem sp_gsp {s₀ s : Shared} {S₀ H₀ : Hp} {ip : List (Addr × Obj)} {D : GEn} {ys : List V} {fl : Flow} (hl : Φ.L ≤ s₀.heap.objs.size) (hp : ∀ p ∈ Φ.pn ++ ip, Φ.L ≤ p.1) (h : SP (Φ.X s₀ H₀) ip (D.at S₀ H₀ ys) fl s) : GSP Φ S₀ H₀ s₀ ip D ys fl s := by
  cases fl with
  | next => obtain ⟨σ, H, I, q⟩ := h; exact ⟨σ, H, ⟨hl, hp, I⟩, q⟩
  | brk => obtain ⟨σ, H, I, q⟩ := h; exact ⟨σ, H, ⟨hl, hp, I⟩, q⟩
  | cont => obtain ⟨σ, H, I, q⟩ := h; exact ⟨σ, H, ⟨hl, hp, I⟩, q⟩
  | ret u => obtain ⟨v, σ, H, I, r1, q⟩ := h; exact ⟨v, σ, H, ⟨hl, hp, I⟩, r1, q⟩
theorem gss_pl {t : Hp → Hp → TS} (h : ∀ s₀ S₀ H₀, Φ.L ≤ s₀.heap.objs.size → PSs (Φ.X s₀ H₀) rest (t S₀ H₀)) : GSs Φ B rest (tPl t) := by
  refine ⟨fun n ys S₀ H₀ s₀ ip c fs K J gd lv s σ H D g hn k ⟨hl, hp, I⟩ ht => s1_wrap ?_⟩
  have := (h s₀ S₀ H₀ hl).run ip s σ H _ I ht
  rw [Fm.ar hl, Fm.env hl] at this
  rw [g.over]
  exact wpAny_mono this (fun fl s1 hs => k.ok n ys S₀ H₀ s₀ s1 fl hn (sp_gsp hl hp hs)) fun x s1 hx => k.excX n ys S₀ H₀ s₀ s1 x hl hx
/-- statements that may raise -/
theorem gss_plX {t : Nat → Hp → Hp → TS} (h : ∀ i s₀ S₀ H₀, Φ.L ≤ s₀.heap.objs.size → PSs (Φ.Z i s₀ S₀ H₀) rest (t i S₀ H₀)) : GSs Φ B rest (fun D S₀ H₀ ys σ H => t ys.length S₀ H₀ (D.at S₀ H₀ ys) σ H) := by
  refine ⟨fun n ys S₀ H₀ s₀ ip c fs K J gd lv s σ H D g hn k ⟨hl, hp, I⟩ ht => s1_wrap ?_⟩
  have IZ : Inv (Φ.Z ys.length s₀ S₀ H₀) ip σ H s := I.wish (Φ.Z ys.length s₀ S₀ H₀).xe
  have := (h ys.length s₀ S₀ H₀ hl).run ip s σ H _ IZ ht
  have e1 : (Φ.Z ys.length s₀ S₀ H₀).env = Φ.e0 := Fm.env (H := H₀) hl
  have e2 : (Φ.Z ys.length s₀ S₀ H₀).A = Φ.A0 := Fm.ar (H := H₀) hl
  rw [e2, e1] at this
  rw [g.over]
  refine wpAny_mono this (fun fl s1 hs => k.ok n ys S₀ H₀ s₀ s1 fl hn (sp_gsp hl hp ?_)) fun x s1 hx => k.exc n ys S₀ H₀ s₀ s1 x hl hx
  exact SP.unwish (X := Φ.X s₀ H₀) (E := (Φ.Z ys.length s₀ S₀ H₀).xe) hs
def tNil : TGn := fun D S₀ H₀ ys σ H => D.nx S₀ H₀ ys σ H
theorem gss_nil : GSs Φ B [] tNil :=
  ⟨fun n ys S₀ H₀ s₀ ip c fs K J gd lv s σ H D g hn k I ht => s1_nil (k.ok n ys S₀ H₀ s₀ s .next hn ⟨σ, H, I, ht⟩)⟩
def tThen (t u : TGn) : TGn := fun D => t { D with nx := fun S₀ H₀ ys σ H => u D S₀ H₀ ys σ H }
theorem gss_cons {t u : TGn} (a : GS Φ B st t) (b : GSs Φ B rest u) : GSs Φ B (st :: rest) (tThen t u) := by
  refine ⟨fun n ys S₀ H₀ s₀ ip c fs K J gd lv s σ H D g hn k I ht => s1_cons (a.run n ys S₀ H₀ s₀ ip c fs _ J gd lv s σ H _ g hn ⟨fun n' ys' S' H' s' s1 fl hn' hs => ?_, k.exc⟩ I ht)⟩
  cases fl with
  | next =>
    obtain ⟨σ1, H1, I1, q⟩ := hs
    exact b.run n' ys' S' H' s' ip c fs K J gd lv s1 σ1 H1 D g hn' k I1 q
  | brk => exact k.ok n' ys' S' H' s' s1 .brk hn' hs
  | cont => exact k.ok n' ys' S' H' s' s1 .cont hn' hs
  | ret u => exact k.ok n' ys' S' H' s' s1 (.ret u) hn' hs
/-- weaker wishes -/
theorem GSs.imp {t u : TGn} (h : GSs Φ B rest t) (q : ∀ D S₀ H₀ ys σ H, u D S₀ H₀ ys σ H → t D S₀ H₀ ys σ H) : GSs Φ B rest u :=
  ⟨fun n ys S₀ H₀ s₀ ip c fs K J gd lv s σ H D g hn k I ht => h.run n ys S₀ H₀ s₀ ip c fs K J gd lv s σ H D g hn k I (q _ _ _ _ _ _ ht)⟩
theorem GS.imp {t u : TGn} (h : GS Φ B st t) (q : ∀ D S₀ H₀ ys σ H, u D S₀ H₀ ys σ H → t D S₀ H₀ ys σ H) : GS Φ B st u :=
  ⟨fun n ys S₀ H₀ s₀ ip c fs K J gd lv s σ H D g hn k I ht => h.run n ys S₀ H₀ s₀ ip c fs K J gd lv s σ H D g hn k I (q _ _ _ _ _ _ ht)⟩
/-! yield -/
def tYld (B : Brf) (te : TE) : TGn := fun D S₀ H₀ ys σ H => ys.length < B.tot ∧ te σ H fun x H1 => ∃ S1, Ex S1 H1 ∧ B.yl S₀ H₀ ys x S1 H1 ∧ (ys.length + 1 < B.tot → ∀ S' H', Ex S1 S' → Ex S' H' → D.nx S' H' (ys ++ [x]) σ H')
theorem gs_yield {e : Expr} {yp pos : Pos} {te : TE} (he : ∀ s₀ H₀, Φ.L ≤ s₀.heap.objs.size → PE (Φ.X s₀ H₀) e te) (hco : Φ.scope.isCoroutine = false) (hi : interactive Φ.e0 = false) : GS Φ B (.Expr (.Yield (some e) yp) pos) (tYld B te) := by
  refine ⟨fun n ys S₀ H₀ s₀ ip c fs K J gd lv s σ H D g hn k ⟨hl, hp, I⟩ ht => ?_⟩
  obtain ⟨hlt, ht⟩ := ht
  obtain ⟨m, rfl⟩ : ∃ m, n = m + 1 := ⟨n - 1, by omega⟩
  refine s1_yieldS g.split g.gd g.guard ?_ hco hi
  have := (he s₀ H₀ hl).run ip s σ H _ I ht
  rw [Fm.ar hl, Fm.env hl] at this
  rw [g.over]
  refine wpAny_mono this (fun v s1 hv => ?_) fun x s1 hx => k.excX _ _ _ _ _ s1 x hl hx
  obtain ⟨x, H1, I1, rv, S1, ex, yl, cont⟩ := hv
  intro kk l p hk
  refine ⟨x, ip, σ, S1, H1, rv, ⟨hl, hp, I1⟩, yl, ex, ?_⟩
  cases m with
  | zero => exact trivial
  | succ m =>
    intro s' S' H' ex1 ex2 wk
    refine hk _ _ _ (k.ok (m + 1) (ys ++ [x]) S' H' s' s' .next ?_ ⟨σ, H', rebase ⟨hl, hp, I1⟩ wk, cont (by omega) S' H' ex1 ex2⟩)
    rw [List.length_append, List.length_singleton]; omega
/-! loops -/
theorem gc_loop {c c' : Code} {fs : List Frame} {gd : Bool → Bool} {k : Result → Sem PySem.Fin} {l kp : List Value} {p : Pos} (g : GC Φ c fs gd) (hw : c'.weight = 0) (hu : c'.cUnits = 0) : GC Φ c' (.ret k none (gd false) l c p kp :: fs) id where
  over := (over_loop hw hu).trans g.over
  split := by
    show (splitAtGen fs).map _ = none
    rw [g.split]; rfl
  guard := by
    show (gd false || fs.any Frame.guarded) = false
    rw [g.gd, g.guard]; rfl
  gd := rfl
/-- an exception leaves a loop's code -/
theorem s1_back {n : Nat} {ys : List V} {S₀ H₀ : Hp} {s₀ s : Shared} {ip : List (Addr × Obj)} {c : Code} {fs : List Frame} {K : Flow → Sem PySem.Fin} {J : Value → Sem PySem.Fin} {gd : Bool → Bool} {lv : List Value → List Value} {D : GEn} {e : Value} {p : Pos} {c' : Code} {l : List Value}
    (hl : Φ.L ≤ s₀.heap.objs.size) (g : GC Φ c fs gd) (k : GK Φ B ip c fs K J D) (h : cameBackBy (model Φ.P Φ.w) Φ.A0 Φ.e0 (Φ.Z ys.length s₀ S₀ H₀).xe e s) :
    S1 (model Φ.P Φ.w) Φ.A (RrP Φ B ys S₀ H₀ s₀) (YPn Φ B n ys S₀ H₀ s₀) c' (.raise e) (.ret (loopK Φ.e0 K J gd lv) none (gd false) l c p [] :: fs) s := by
  refine s1_leaf (.error e) ?_
  show S1 _ _ _ _ _ (((Sem.raise e : Sem Flow).onRaise (cameBack Φ.e0)).wrap K J gd lv) fs s
  show S1 _ _ _ _ _ (((cameBack Φ.e0 e).bind fun _ => (Sem.raise e : Sem Flow)).wrap K J gd lv) fs s
  rw [Sem.bind_eq_wrap, Sem.wrap_wrap]
  refine s1_wrap ?_
  rw [g.over]
  exact wpAny_mono h (fun _ s1 hx => k.exc n ys S₀ H₀ s₀ s1 e hl hx) fun x s1 hx => k.exc n ys S₀ H₀ s₀ s1 x hl hx
theorem fm_owns {i : Nat} {s₀ : Shared} {S₀ H₀ : Hp} (hl : Φ.L ≤ s₀.heap.objs.size) : PassesOwn (model Φ.P Φ.w) Φ.A0 Φ.e0 (Φ.Z i s₀ S₀ H₀).xe := by
  have := owns_gcx (P := Φ.P) (w := Φ.w) (K := Φ.K) (mg := Φ.mg) (base := Φ.base) (N := Φ.N) (qual := Φ.qual) (scope := Φ.scope) (f := Φ.f) (cd := Φ.cd) (A := Φ.A) (outer := Φ.outer) (s := Φ.s0 s₀) (H := cutH Φ.L H₀) (E := Φ.E i S₀ H₀) (pn := Φ.pn)
  have e1 : (Φ.Z i s₀ S₀ H₀).env = Φ.e0 := Fm.env (H := H₀) hl
  have e2 : (Φ.Z i s₀ S₀ H₀).A = Φ.A0 := Fm.ar (H := H₀) hl
  rw [e1, e2] at this
  exact this
/-- a turn's exception, noted -/
theorem s1_note {n : Nat} {ys : List V} {S₀ H₀ : Hp} {s₀ s : Shared} {ip : List (Addr × Obj)} {c : Code} {fs : List Frame} {K : Flow → Sem PySem.Fin} {J : Value → Sem PySem.Fin} {gd : Bool → Bool} {lv : List Value → List Value} {D : GEn} {e : Value} {p : Pos} {c' : Code}
    (hl : Φ.L ≤ s₀.heap.objs.size) (g : GC Φ c fs gd) (k : GK Φ B ip c fs K J D) (hw : c'.weight = 0) (hu : c'.cUnits = 0) (h : (Φ.Z ys.length s₀ S₀ H₀).xe e s) :
    S1 (model Φ.P Φ.w) Φ.A (RrP Φ B ys S₀ H₀ s₀) (YPn Φ B n ys S₀ H₀ s₀) c' (noteK Φ.e0 e) (.ret (loopK Φ.e0 K J gd lv) none (gd false) (lv []) c p [] :: fs) s := by
  refine s1_wrap ?_
  rw [(gc_loop (k := loopK Φ.e0 K J gd lv) (l := lv []) (kp := []) (p := p) g hw hu).over]
  exact wpAny_bind (wpAny_mono (fm_owns hl e s h) (fun _ s2 q => wpAny_theTreesLotGoes (s1_back hl g k q)) fun x s2 q => s1_back hl g k q)
def tFr (wi : Hp → Hp → TI) (gt : Hp → Hp → L2.TG) (tb : TGn) : TGn := fun D S₀ H₀ ys σ H => wi S₀ H₀ σ H fun J H1 => ∃ W : Nat → Nat → Hp → Hp → List V → L2.St → Hp → Prop, (∃ m, W 0 m S₀ H₀ ys σ H1) ∧ ∀ i m S₀ H₀ ys σ H, W i m S₀ H₀ ys σ H →
  (J.stop i H ∧ D.nx S₀ H₀ ys σ H) ∨ (J.go i H ∧ ∃ N : Hp → Hp → List V → L2.St → Hp → Prop, (∀ S' H' ys' σ' H1', N S' H' ys' σ' H1' → ∃ m', m' < m ∧ W (i + 1) m' S' H' ys' σ' H1') ∧
    ∀ x H', J.yld i H x H' → gt S₀ H₀ x σ H' fun σ2 H2 => tb { D with nx := N, ct := N, bk := D.nx } S₀ H₀ ys σ2 H2)
theorem gs_for {tg iter : Expr} {body : List Stmt} {pos : Pos} {wi : Hp → Hp → TI} {gt : Hp → Hp → L2.TG} {tb : TGn} (hi : ∀ s₀ S₀ H₀, Φ.L ≤ s₀.heap.objs.size → PI (Φ.X s₀ H₀) tg iter (wi S₀ H₀)) (hg : ∀ s₀ S₀ H₀, Φ.L ≤ s₀.heap.objs.size → PG (Φ.X s₀ H₀) tg (gt S₀ H₀))
    (hb : GSs Φ B body tb) (hs : ∀ x, foldedSetIterable iter Φ.e0 x = pure x := by intro _; rfl) : GS Φ B (.For tg iter body [] pos) (tFr wi gt tb) := by
  refine ⟨fun n ys S₀ H₀ s₀ ip c fs K J gd lv s σ H D g hn k ⟨hl, hp, I⟩ ht => s1_For ?_ hs⟩
  have h1 := (hi s₀ S₀ H₀ hl).run ip s σ H _ I ht
  rw [Fm.ar hl, Fm.env hl] at h1
  rw [g.over]
  refine wpAny_mono h1 (fun v s1 h2 => wpAny_mono h2 (fun itv s2 h3 => ?_) fun x s' hx => k.excX _ _ _ _ _ s' x hl hx) fun x s' hx => k.excX _ _ _ _ _ s' x hl hx
  obtain ⟨it, fp, tn, Jt, H2, e, I2, T, st2, f2, W, ⟨m0, w0⟩, turn⟩ := h3
  subst e
  intro p
  have young : ∀ b ∈ fp, Φ.L ≤ b := fun b hb => by
    obtain ⟨_, _, _, h4, _⟩ := f2 b hb
    rcases h4 with h4 | h4
    · cases h4
    · have h5 : (Φ.X s₀ H₀).s_0.heap.objs.size = Φ.L := cut_size hl
      rw [h5] at h4; exact h4
  -- what stays true of the iterator's things, whenever it was woken
  have stat : ∀ {s' : Shared} {H' Hn : Hp}, Φ.L ≤ s'.heap.objs.size → (∀ b ∈ fp, Hn b = none) → ∀ b ∈ fp, FpOk (Φ.X s' H') ip Hn b := fun {s' H' Hn} hl' hn b hb => by
    obtain ⟨_, h2, h3, _, h5, h6⟩ := f2 b hb
    rw [Fm.env hl] at h2 h5
    refine ⟨hn b hb, by rw [Fm.env hl']; exact h2, h3, .inr ?_, by rw [Fm.env hl']; exact h5, h6⟩
    have h7 : (Φ.X s' H').s_0.heap.objs.size = Φ.L := cut_size hl'
    rw [h7]; exact young b hb
  have loop : ∀ (m i n : Nat) (ys : List V) (S₀ H₀ : Hp) (s₀ s : Shared) (σ : L2.St) (H : Hp), n + ys.length = B.tot → W i m S₀ H₀ ys σ H → Φ.I s₀ H₀ ip σ H s → tn i s.heap → (∀ b ∈ fp, H b = none) →
      S1 (model Φ.P Φ.w) Φ.A (RrP Φ B ys S₀ H₀ s₀) (YPn Φ B n ys S₀ H₀ s₀) (.forLoop tg (.ref it) body [] Φ.e0) ((model Φ.P Φ.w).den (.forLoop tg (.ref it) body [] Φ.e0)) (.ret (loopK Φ.e0 K J gd lv) none (gd false) (lv []) c p [] :: fs) s := by
    intro m
    induction m using Nat.strongRecOn with
    | ind m ih =>
      intro i n ys S₀ H₀ s₀ s σ H hn w ⟨hl, hp, I⟩ st fr
      have gl := gc_loop (k := loopK Φ.e0 K J gd lv) (c' := .forLoop tg (.ref it) body [] Φ.e0) (l := lv []) (kp := []) (p := p) g rfl rfl
      refine s1_forLoop ?_
      rw [gl.over]
      rcases turn i m S₀ H₀ ys σ H w with ⟨stop, qn⟩ | ⟨go, N, hN, step⟩
      · have := T.done (Φ.X s₀ H₀) rfl rfl rfl rfl i ip s σ H (Φ.X s₀ H₀).xe I (stat hl fr) st stop
        rw [Fm.ar hl] at this
        refine wpAny_mono this (fun r s4 ⟨hr, I4⟩ => ?_) fun x s' hx => s1_note hl g k rfl rfl (Fm.up hx)
        subst hr
        exact fun c1 => s1_leaf (.ok .next) (k.ok n ys S₀ H₀ s₀ s4 .next hn ⟨σ, H, ⟨hl, hp, I4⟩, qn⟩)
      · have := T.item (Φ.X s₀ H₀) rfl rfl rfl rfl i ip s σ H (Φ.X s₀ H₀).xe I (stat hl fr) st go
        rw [Fm.ar hl] at this
        refine wpAny_mono this (fun r s4 ⟨u, hr, h4⟩ => ?_) fun x s' hx => s1_note hl g k rfl rfl (Fm.up hx)
        subst hr
        refine wpAny_mono h4 (fun _ s5 ⟨x, H5, I5, r5, y5, st5, fr5⟩ => ?_) fun x s' hx => s1_note hl g k rfl rfl (Fm.up hx)
        have I5' := I5.pinned (stat hl fr5) (T.obj _ _ st5)
        have h6 := (hg s₀ S₀ H₀ hl).run _ s5 σ H5 x u _ I5' r5 (step x H5 y5)
        rw [Fm.ar hl, Fm.env hl] at h6
        refine wpAny_mono h6 (fun _ s6 ⟨σ6, H6, I6, q6⟩ => ?_) fun x s' hx => s1_note hl g k rfl rfl (Fm.up hx)
        have hp6 : ∀ q ∈ Φ.pn ++ (ip ++ pinsAt fp s5.heap), Φ.L ≤ q.1 := fun q hq => by
          rcases List.mem_append.mp hq with hq | hq
          · exact hp q (List.mem_append_left _ hq)
          · rcases List.mem_append.mp hq with hq | hq
            · exact hp q (List.mem_append_right _ hq)
            · exact young q.1 (of_pinsAt hq).1
        refine hb.run n ys S₀ H₀ s₀ (ip ++ pinsAt fp s5.heap) _ _ _ _ id id s6 σ6 H6 _ gl hn ⟨fun n' ys' S' H' s' s7 fl hn' hs => ?_, fun n' ys' S' H' s' s3 x hl' hx => s1_note hl' g k rfl rfl hx⟩ ⟨hl, hp6, I6⟩ q6
        have back : ∀ {σ7 : L2.St} {H7 : Hp}, Φ.I s' H' (ip ++ pinsAt fp s5.heap) σ7 H7 s7 → Φ.I s' H' ip σ7 H7 s7 := fun {σ7 H7} I7 => ⟨I7.1, hp, I7.2.2.unpinned⟩
        have again : ∀ {σ7 : L2.St} {H7 : Hp}, Φ.I s' H' (ip ++ pinsAt fp s5.heap) σ7 H7 s7 → N S' H' ys' σ7 H7 → S1 (model Φ.P Φ.w) Φ.A (RrP Φ B ys' S' H' s') (YPn Φ B n' ys' S' H' s') (.forLoop tg (.ref it) body [] Φ.e0) ((model Φ.P Φ.w).den (.forLoop tg (.ref it) body [] Φ.e0)) (.ret (loopK Φ.e0 K J gd lv) none (gd false) (lv []) c p [] :: fs) s7 := fun {σ7 H7} I7 n7 => by
          obtain ⟨m', hm, w7⟩ := hN S' H' ys' σ7 H7 n7
          have pin7 := fun b (hb : b ∈ fp) o (e : s5.heap.get? b = some o) => I7.2.2.pin (b, o) (List.mem_append_right _ (List.mem_append_right _ (mem_pinsAt hb e)))
          refine ih m' hm (i + 1) n' ys' S' H' s' s7 σ7 H7 hn' w7 (back I7) (T.keep _ _ _ st5 fun b hb o e => (pin7 b hb o e).1) fun b hb => ?_
          obtain ⟨o, e, d⟩ := T.obj _ _ st5 b hb
          exact (pin7 b hb o e).2.1
        cases fl with
        | next => obtain ⟨σ7, H7, I7, n7⟩ := hs; exact s1_again rfl (again I7 n7)
        | cont => obtain ⟨σ7, H7, I7, n7⟩ := hs; exact s1_again rfl (again I7 n7)
        | brk => obtain ⟨σ7, H7, I7, q7⟩ := hs; exact s1_leaf (.ok .next) (k.ok n' ys' S' H' s' s7 .next hn' ⟨σ7, H7, back I7, q7⟩)
        | ret v => obtain ⟨x7, σ7, H7, I7, r7, q7⟩ := hs; exact s1_leaf (.ok (.ret v)) (k.ok n' ys' S' H' s' s7 (.ret v) hn' ⟨x7, σ7, H7, back I7, r7, q7⟩)
  exact loop m0 0 n ys S₀ H₀ s₀ s2 σ H2 hn w0 ⟨hl, hp, I2⟩ st2 fun b hb => (f2 b hb).1
end
end GX

/-! ### a generator is made, is woken -/
namespace GX
open PySem PySem.Spec PyProof.Rows L2 GenW
open DL (Ex)
theorem goes_end {M : Model} {A : Around} {gs : GenState} {s : Shared} {Rr : RP} {Yy : YP} (h : GoesP M A gs s Rr Yy) (Γ : PySem.Ctx) (p : Pos) (hΓ : Γ.In A) :
    ∃ c q t fs e s1, (gs = .fresh c ∧ t = M.den c ∧ fs = [] ∧ q = p ∨ ∃ k l cl, gs = .suspended k l c q fs cl ∧ t = k (.send .none)) ∧ Runs M (Γ.wake c p) q t fs s e s1 ∧ PEnd Rr Yy e s1 := by
  cases gs with
  | fresh c =>
    obtain ⟨e, s1, a, b⟩ := (show S1 M A Rr Yy c (M.den c) [] s from h) (Γ.wake c p) p rfl (hΓ.wake c p)
    exact ⟨c, p, _, _, e, s1, .inl ⟨rfl, rfl, rfl, rfl⟩, a, b⟩
  | suspended k l c q fs cl =>
    obtain ⟨e, s1, a, b⟩ := (show S1 M A Rr Yy c (k (.send .none)) fs s from h) (Γ.wake c p) q rfl (hΓ.wake c p)
    exact ⟨c, q, _, _, e, s1, .inr ⟨k, l, cl, rfl, rfl⟩, a, b⟩
  | running => exact h.elim
  | finished => exact h.elim
theorem wpAny_wake {M : Model} {A : Around} {s : Shared} {g : Nat} {gs : GenState} {Rr : RP} {Yy : YP} {l : List Value} {α : Type} {k : GenResult → Sem α} {Q : α → Shared → Prop} {E : Value → Shared → Prop} (hg : s.gens[g]? = some gs)
    (h : GoesP M A gs (s.setGen g .running) Rr Yy) (hR : ∀ r s1, Rr r s1 → wpAny M A (k (End.ret r).result) Q E (s1.setGen g .finished))
    (hY : ∀ v s1 gs', isSusp gs' = true → gs'.bare = true → Yy v s1 gs' → wpAny M A (k (.yielded v)) Q E (s1.setGen g gs')) : wpAny M A (.resume g (.send .none) l k) Q E s := by
  intro Γ p hΓ
  rw [Sem.wp_resume]
  obtain ⟨c, q, t, fs, e, s1, hs, hr, he⟩ := goes_end h Γ p hΓ
  have hq : e.quiet = true := by
    cases e with
    | ret r => rfl
    | susp v g0 l0 k0 c0 p0 f0 => exact he.1
  refine ⟨e.result, s1.setGen g e.genState, ?_, ?_⟩
  · unfold Wakes
    rw [hg]
    rcases hs with ⟨rfl, rfl, rfl, rfl⟩ | ⟨k0, l0, cl, rfl, rfl⟩
    · exact ⟨e, s1, hr, hq, rfl, rfl⟩
    · exact ⟨e, s1, hr, hq, rfl, rfl⟩
  · cases e with
    | ret r => exact hR r s1 he Γ p hΓ
    | susp v g0 l0 k0 c0 p0 f0 => exact hY v s1 _ rfl (End.bare_of_quiet he.1) he.2 Γ p hΓ
section
variable {P : Program} {w : World} {A : Around} {E : Value → Shared → Prop} {s : Shared}
/-- next(g): an item, the end, an exception of its own -/
theorem next_g {a : Addr} {g : Nat} {gs : GenState} {Rr : RP} {Yy : YP} {Q : Option Value → Shared → Prop} (hh : A.handled = none) (hl : s.heap.NoLimit) (hroom : A.depth < recursionLimit) (hg : s.heap.IsGen a g) (hgs : s.gens[g]? = some gs)
    (hgo : GoesP (model P w) A.in1 gs (s.setGen g .running) Rr Yy)
    (hY : ∀ v s1 gs', isSusp gs' = true → gs'.bare = true → Yy v s1 gs' → Q (some v) (s1.setGen g gs'))
    (hR : ∀ r s1, Rr r s1 → ((r = .ok (.ret .none) ∨ r = .ok .next) ∧ ∀ h', (∀ b o, s1.heap.get? b = some o → h'.get? b = some o) → Q none { s1.setGen g .finished with heap := h' }) ∨
      ∃ e, r = .error e ∧ s1.heap.IsGen a g ∧ NotStop (model P w) e s1.heap ∧ E e (s1.setGen g .finished)) : wpAny (model P w) A (pyNext (.ref a)) Q E s := by
  unfold pyNext
  refine wpAny_bind (wpAny_attempt ?_)
  refine wpAny_callSpecial?_slot (name := Str.ofString "__next__") hg.typeIs slot_gen_next ?_
  refine wpAny_call_entry slot_gen_next hg.typeIs entry_gen_next ?_ (args_gen_next _)
  show wpAny _ A.in1 (Builtin.Generator.genWake (.ref a) (.send .none)) _ _ s
  unfold Builtin.Generator.genWake
  refine wpAny_bind (wpAny_holding ?_)
  refine wpAny_genNumber hg ?_
  refine wpAny_bind (wpAny_genState hgs ?_)
  cases gs with
  | running => exact hgo.elim
  | finished => exact hgo.elim
  | _ =>
  refine wpAny_bind (wpAny_roomToWake hl hroom ?_); show wpAny _ A.in1 (.resume g (.send .none) [] _) _ _ s
  refine wpAny_wake hgs hgo (fun r s1 hr => ?_) (fun v s1 gs' h1 h2 h3 => wpAny_pure ⟨v, rfl, wpAny_pure (hY v s1 gs' h1 h2 h3)⟩)
  · rcases hR r s1 hr with ⟨hr2, hp⟩ | ⟨e, rfl, hg1, hns, hq⟩
    · have hres : End.result (.ret r) = .returned .none := by rcases hr2 with z | z <;> rw [z] <;> rfl
      simp only [hres]
      show wpAny _ A.in1 (newExc (.type "StopIteration") [] >>= _) _ _ _
      refine wpAny_bind ?_
      simp only [newExc, newTuple]
      refine wpAny_bind (wpAny_newObj_type ?_ (by size_fits)); refine wpAny_bind (m := firstArgMember _ _) (wpAny_of_eq (a := Value.none) (by first | rfl | (simp only [firstArgMember]; rfl)) ?_)
      refine wpAny_newObj_type ?_ (by size_fits); simp only [raiseNew]
      refine wpAny_bind (wpAny_bind (wpAny_handled ?_))
      rw [show A.in1.handled = none from hh]
      refine wpAny_throw ?_
      refine wpAny_bind (wpAny_isInstance (T := "StopIteration") (b := true) ⟨_, Heap.get?_push_size _ rfl, rfl⟩ isSubtype_stop ?_); exact wpAny_pure (hp _ fun b o hb => Heap.get?_push_of_some _ (Heap.get?_push_of_some _ hb))
    · obtain ⟨o, nm, qn, ho, hc, hd, hsl⟩ := hg1
      show wpAny _ A.in1 (Builtin.Generator.genLeft (.ref a) e) _ _ _
      unfold Builtin.Generator.genLeft Builtin.Generator.madeByALambda
      refine wpAny_bind (wpAny_bind (wpAny_load (o := o) ho (wpAny_pure ?_))); refine wpAny_bind (hns _ _ _ _ rfl ?_)
      rw [Bool.and_false, if_neg Bool.false_ne_true]
      unfold Builtin.Generator.genEscaped
      first
        | refine wpAny_bind (hns _ _ _ _ rfl ?_)
        | refine wpAny_bind (wpAny_pure (wpAny_bind (hns _ _ _ _ rfl ?_)))
      rw [if_pos (show (!false) = true from rfl)]
      first
        | refine wpAny_throw ?_
        | refine wpAny_bind (wpAny_throw ?_)
      refine wpAny_bind (hns _ _ _ _ rfl ?_); rw [if_neg Bool.false_ne_true]
      exact wpAny_throw hq
end
end GX

/-! ### a generator def's body, by data: o is what was handed out -/
namespace GX
open PySem PySem.Spec PyProof.Rows L2 GenW
open DL (Ex Rel Rp RpAll Rv RvAll D VD OD KnOk Kn SD SDs ED TD GD ItD tS tE tT tG tI Grow Step)
abbrev DEnv := DL.Env
/-- how it goes on behind all that it hands out: it is woken no more, it ends, it raises -/
inductive Dn where
  | no | yes | ex (x : DL.XV)
def Dn.n : Dn → Nat
  | .no => 0
  | _ => 1
/-- what is wanted of its exception, n: all that it hands out ahead of it -/
def Dn.E (K : PySem.W.Frag) (n : Nat) : Dn → Nat → Hp → Hp → XK
  | .ex x => fun i S₀ H₀ cls d H' => i = n ∧ ∃ S', Grow [] S₀ H₀ S' H' ∧ DL.IsX K S' H' cls d x
  | _ => fun _ _ _ _ _ _ => False
def ofB : Bool → Dn
  | true => .yes
  | false => .no
theorem Dn.le (d : Dn) : d.n ≤ 1 := by cases d <;> simp [Dn.n]
/-- all that it hands out is outs; done: what comes behind it -/
def Br (K : PySem.W.Frag) (outs : List D) (done : Dn) : Brf where
  tot := outs.length + done.n
  yl := fun S₀ H₀ ys x S H => Grow [] S₀ H₀ S H ∧ ∃ d, outs[ys.length]? = some d ∧ Rp K S x d
  fin := fun S₀ H₀ ys H => done = .yes ∧ ys.length = outs.length ∧ ∃ S, Grow [] S₀ H₀ S H
structure Kg where
  nx : List D → DEnv → Prop
  bk : List D → DEnv → Prop := fun _ _ => False
  ct : List D → DEnv → Prop := fun _ _ => False
structure KgOk (K : PySem.W.Frag) (Sb : Hp) (k : Kg) (Dn : GEn) : Prop where
  nx : ∀ o ρ S₀ H₀ ys σ S H, k.nx o ρ → Ex Sb S → o.length = ys.length → Rel K ⟨[], S₀, H₀⟩ ρ σ S H [] → Dn.nx S₀ H₀ ys σ H
  bk : ∀ o ρ S₀ H₀ ys σ S H, k.bk o ρ → Ex Sb S → o.length = ys.length → Rel K ⟨[], S₀, H₀⟩ ρ σ S H [] → Dn.bk S₀ H₀ ys σ H
  ct : ∀ o ρ S₀ H₀ ys σ S H, k.ct o ρ → Ex Sb S → o.length = ys.length → Rel K ⟨[], S₀, H₀⟩ ρ σ S H [] → Dn.ct S₀ H₀ ys σ H
def tK (K : PySem.W.Frag) (o : List D) (ρ : DEnv) (k : Kg) : TGn := fun Dn S₀ H₀ ys σ H => ∃ Sb S, Ex Sb S ∧ o.length = ys.length ∧ Rel K ⟨[], S₀, H₀⟩ ρ σ S H [] ∧ KgOk K Sb k Dn
def GDo (Φ : Fm) (B : Brf) (o : List D) (ρ : DEnv) (st : Stmt) (k : Kg) : Prop := GS Φ B st (tK Φ.K o ρ k)
def GDs (Φ : Fm) (B : Brf) (o : List D) (ρ : DEnv) (sts : List Stmt) (k : Kg) : Prop := GSs Φ B sts (tK Φ.K o ρ k)
theorem execs_app (env : PySem.Env) (l rest : List Stmt) (K : Flow → Sem PySem.Fin) (J : Value → Sem PySem.Fin) (gd : Bool → Bool) (lv : List Value → List Value) : (execs (l ++ rest) env).wrap K J gd lv =
    (execs l env).wrap (fun f => match f with | .next => (execs rest env).wrap K J gd lv | f => K f) J gd lv := by
  induction l with
  | nil => rfl
  | cons s l ih =>
    rw [List.cons_append, execs_cons_wrap, execs_cons_wrap]
    refine Sem.wrap_congr _ _ _ (fun f => ?_) fun _ => rfl
    cases f <;> first | exact ih | rfl
section
variable {Φ : Fm} {B : Brf} {st : Stmt} {l r rest body : List Stmt} {o : List D} {ρ ρ1 : DEnv} {k : Kg} {pos yp : Pos} {e c tg iter : Expr} {d : D} {outs ds : List D} {done : Dn} {p : Bool}
theorem gss_app {t u : TGn} (a : GSs Φ B l t) (b : GSs Φ B rest u) : GSs Φ B (l ++ rest) (tThen t u) := by
  refine ⟨fun n ys S₀ H₀ s₀ ip c fs K J gd lv s σ H D g hn k I ht => ?_⟩
  rw [execs_app]
  refine a.run n ys S₀ H₀ s₀ ip c fs _ J gd lv s σ H _ g hn ⟨fun n' ys' S' H' s' s1 fl hn' hs => ?_, k.exc⟩ I ht
  cases fl with
  | next =>
    obtain ⟨σ1, H1, I1, q⟩ := hs
    exact b.run n' ys' S' H' s' ip c fs K J gd lv s1 σ1 H1 D g hn' k I1 q
  | brk => exact k.ok n' ys' S' H' s' s1 .brk hn' hs
  | cont => exact k.ok n' ys' S' H' s' s1 .cont hn' hs
  | ret u => exact k.ok n' ys' S' H' s' s1 (.ret u) hn' hs
theorem gss_any {P : List D → DEnv → Kg → Prop} (h : ∀ o ρ k, P o ρ k → GDs Φ B o ρ r k) : GSs Φ B r (fun Dn S₀ H₀ ys σ H => ∃ o ρ k, P o ρ k ∧ tK Φ.K o ρ k Dn S₀ H₀ ys σ H) :=
  ⟨fun n ys S₀ H₀ s₀ ip c fs K J gd lv s σ H D g hn k I ⟨o, ρ, k', hp, ht⟩ => (h o ρ k' hp).run n ys S₀ H₀ s₀ ip c fs K J gd lv s σ H D g hn k I ht⟩
theorem gds_nil (h : k.nx o ρ) : GDs Φ B o ρ [] k := gss_nil.imp fun Dn S₀ H₀ ys σ H ⟨Sb, S, eb, ho, R, kk⟩ => kk.nx o ρ S₀ H₀ ys σ S H h eb ho R
theorem gds_cons (h : GDo Φ B o ρ st { k with nx := fun o' ρ' => GDs Φ B o' ρ' r k }) : GDs Φ B o ρ (st :: r) k :=
  (gss_cons h (gss_any (P := fun o' ρ' k' => GDs Φ B o' ρ' r k' ∧ k' = k) fun _ _ _ h => h.1)).imp fun Dn S₀ H₀ ys σ H ⟨Sb, S, eb, ho, R, kk⟩ =>
    ⟨Sb, S, eb, ho, R, fun o' ρ' S₀' H₀' ys' σ' S' H' hn eb' ho' R' => ⟨o', ρ', k, ⟨hn, rfl⟩, Sb, S', eb', ho', R', kk⟩, kk.bk, kk.ct⟩
theorem noAd {K : PySem.W.Frag} {fr : DL.Fr} {σ : L2.St} {S H : Hp} {ad : List Addr} (R : Rel K fr ρ σ S H ad) (h : ρ.ow = []) : ad = [] := by
  have := R.al
  rw [h] at this
  exact List.length_eq_zero_iff.mp this
/-- a statement that hands out nothing -/
theorem gds_pl (h : ∀ s₀ H₀, Φ.L ≤ s₀.heap.objs.size → SDs (Φ.X s₀ H₀).nox ρ [st] { nx := fun ρ' => ρ'.ow = [] ∧ GDs Φ B o ρ' r k, rt := fun _ _ => False, bk := fun ρ' => ρ'.ow = [] ∧ k.bk o ρ', ct := fun ρ' => ρ'.ow = [] ∧ k.ct o ρ' }) : GDs Φ B o ρ (st :: r) k := by
  refine GSs.imp (gss_app (l := [st]) (gss_pl (t := fun S₀ H₀ => tS Φ.K ρ _) fun s₀ S₀ H₀ hl => (h s₀ H₀ hl).nox) (gss_any (P := fun o' ρ' k' => GDs Φ B o' ρ' r k' ∧ k' = k) fun _ _ _ h => h.1)) fun Dn S₀ H₀ ys σ H ⟨Sb, S, eb, ho, R, kk⟩ => ?_
  refine ⟨⟨[], S, H₀⟩, S, [], R.up R (.refl _), fun ρ' σ' S' H' ad' ⟨h1, h2⟩ R' => ?_, fun _ _ _ _ _ _ _ z => z.elim, fun ρ' σ' S' H' ad' ⟨h1, h2⟩ R' => ?_, fun ρ' σ' S' H' ad' ⟨h1, h2⟩ R' => ?_, fun _ _ _ _ _ _ _ z => z.elim⟩
  · obtain rfl := noAd R' h1
    obtain ⟨R2, e2⟩ := R.down R'
    exact ⟨o, ρ', k, ⟨h2, rfl⟩, Sb, S', eb.trans e2, ho, R2, kk⟩
  · obtain rfl := noAd R' h1
    obtain ⟨R2, e2⟩ := R.down R'
    exact kk.bk o ρ' S₀ H₀ ys σ' S' H' h2 (eb.trans e2) ho R2
  · obtain rfl := noAd R' h1
    obtain ⟨R2, e2⟩ := R.down R'
    exact kk.ct o ρ' S₀ H₀ ys σ' S' H' h2 (eb.trans e2) ho R2
/-- woken: the entry is now -/
theorem Rel.wake {K : PySem.W.Frag} {fr : DL.Fr} {σ : L2.St} {S H S' H' : Hp} (R : Rel K fr ρ σ S H []) (e : Ex S S') (h : Ex S' H') : Rel K ⟨[], S', H'⟩ ρ σ S' H' [] := by
  have hm : ρ.m = 0 := by
    rcases Nat.eq_zero_or_pos ρ.m with z | z
    · exact z
    · obtain ⟨o, e⟩ := R.ml 0 z
      obtain ⟨l, ho, e1, _⟩ := R.own 0 o e
      simp at e1
  refine ⟨⟨.refl _, h, fun a o e _ => e, fun a e _ _ => e⟩, fun i x q => ?_, fun n o q => ?_, ⟨by simp [hm], by simp⟩, R.nd, R.len, R.al, R.ml, fun l hl => by simp at hl⟩
  · obtain ⟨v, e1, e2⟩ := R.slots i x q
    exact ⟨v, e1, e2.mono ⟨e, [], rfl⟩⟩
  · obtain ⟨l, ho, e1, _⟩ := R.own n o q
    simp at e1
/-- yield e -/
theorem gds_yield (he : ∀ s₀ H₀, Φ.L ≤ s₀.heap.objs.size → ED (Φ.X s₀ H₀).nox ρ e (.d d) ρ1) (h1 : ρ1.ow = []) (hd : outs[o.length]? = some d) (hr : o.length + 1 < outs.length + done.n → GDs Φ (Br Φ.K outs done) (o ++ [d]) ρ1 r k)
    (hco : Φ.scope.isCoroutine = false := by rfl) (hi : interactive Φ.e0 = false := by rfl) : GDs Φ (Br Φ.K outs done) o ρ (.Expr (.Yield (some e) yp) pos :: r) k := by
  have hlt := (List.getElem?_eq_some_iff.mp hd).1
  refine (gss_cons (gs_yield (te := tE Φ.K ρ (.d d) ρ1) (fun s₀ H₀ hl => (he s₀ H₀ hl).nox) hco hi) (gss_any (P := fun o' ρ' k' => GDs Φ (Br Φ.K outs done) o' ρ' r k' ∧ k' = k) fun _ _ _ h => h.1)).imp fun Dn S₀ H₀ ys σ H ⟨Sb, S, eb, ho, R, kk⟩ => ?_
  refine ⟨by show ys.length < outs.length + done.n; omega, ⟨[], S₀, H₀⟩, S, [], R, fun S1 H1 ad1 v st1 R1 r1 => ?_⟩
  obtain rfl := noAd R1 h1
  refine ⟨S1, R1.grow.sh, ⟨R1.grow, d, by rw [← ho]; exact hd, r1.dd⟩, fun hm S' H' e1 e2 => ?_⟩
  refine ⟨o ++ [d], ρ1, k, ⟨hr (by have : ys.length + 1 < outs.length + done.n := hm; omega), rfl⟩, Sb, S', (eb.trans st1.s).trans e1, by simp [ho], Rel.wake R1 e1 e2, kk⟩
theorem PI.nox {X : Cx} {wi : TI} (h : PI X.nox tg iter wi) : PI X tg iter wi := ⟨fun pins s σ H R I hw => by
  refine wpAny_mono (h.run pins s σ H R (I.wish _) hw) (fun v s1 h1 => ?_) fun _ _ z => False.elim z
  refine wpAny_mono h1 (fun u s2 h2 => ?_) fun _ _ z => False.elim z
  obtain ⟨it, fp, tn, Jt, H2, e, I2, T, st2, f2, q⟩ := h2
  exact ⟨it, fp, tn, Jt, H2, e, I2.unwish, T, st2, f2, q⟩⟩
theorem PG.nox {X : Cx} {t : TG} (h : PG X.nox tg t) : PG X tg t := ⟨fun pins s σ H v u Q I rv hw =>
  wpAny_mono (h.run pins s σ H v u Q (I.wish _) rv hw) (fun _ _ ⟨σ', H', I', q⟩ => ⟨σ', H', I'.unwish, q⟩) fun _ _ z => False.elim z⟩
/-- while -/
theorem gds_wk {ρ0 : DEnv} (w : DL.Wk ρ ρ0) (hl : DL.LocOk ρ0) (h : GDs Φ B o ρ0 r k) : GDs Φ B o ρ r k :=
  GSs.imp h fun Dn S₀ H₀ ys σ H ⟨Sb, S, eb, ho, R, kk⟩ => ⟨Sb, S, eb, ho, by have := R.wk w hl; simpa using this, kk⟩
/-- for -/
theorem gds_for {vs : List Nat} (hi : ∀ s₀ H₀, Φ.L ≤ s₀.heap.objs.size → ItD (Φ.X s₀ H₀).nox ρ tg iter ds ρ1) (h1 : ρ1.ow = []) (I : Nat → List D → DEnv → Prop) (h0 : I 0 o ρ1)
    (hs : ∀ i d o ρ, ds[i]? = some d → I i o ρ → ∃ ρ', (∀ s₀ H₀, Φ.L ≤ s₀.heap.objs.size → GD (Φ.X s₀ H₀).nox vs ρ tg (.d d) ρ') ∧ ρ'.ow = [] ∧ GDs Φ B o ρ' body { nx := I (i + 1), ct := I (i + 1), bk := fun o' ρ' => GDs Φ B o' ρ' r k })
    (hd : ∀ o ρ, I ds.length o ρ → GDs Φ B o ρ r k) (hfs : ∀ x, foldedSetIterable iter Φ.e0 x = pure x := by intro _; rfl) : GDs Φ B o ρ (.For tg iter body [] pos :: r) k := by
  have hg : ∀ (s₀ : Shared) (S₀ H₀ : Hp), Φ.L ≤ s₀.heap.objs.size → PG (Φ.X s₀ H₀) tg (fun v σ H Q => ∃ d ρ ρ', (∀ s₀ H₀, Φ.L ≤ s₀.heap.objs.size → GD (Φ.X s₀ H₀).nox vs ρ tg (.d d) ρ') ∧ tG Φ.K vs ρ (.d d) ρ' v σ H Q) := fun s₀ S₀ H₀ hl =>
    PG.nox ⟨fun pins s σ H v u Q I rv ⟨d, ρ, ρ', h1, hq⟩ => (h1 s₀ H₀ hl).run pins s σ H v u Q I rv hq⟩
  refine gds_cons (GS.imp (gs_for (wi := fun S₀ H₀ => tI Φ.K ρ ds ρ1) (fun s₀ S₀ H₀ hl => PI.nox (hi s₀ H₀ hl)) hg (gss_any (P := fun o' ρ' k' => GDs Φ B o' ρ' body k') fun _ _ _ h => h) hfs) fun Dn S₀ H₀ ys σ H ⟨Sb, S, eb, ho, R, kk⟩ => ?_)
  refine ⟨⟨[], S₀, H₀⟩, S, [], R, fun S1 H1 ad1 J st1 R1 w => ?_⟩
  obtain rfl := noAd R1 h1
  refine ⟨fun i m S₀ H₀ ys σ H => m = ds.length - i ∧ i ≤ ds.length ∧ ∃ o ρ S, I i o ρ ∧ o.length = ys.length ∧ Rel Φ.K ⟨[], S₀, H₀⟩ ρ σ S H [] ∧ Ex S1 S, ⟨ds.length, rfl, Nat.zero_le _, o, ρ1, S1, h0, ho, R1, .refl _⟩, ?_⟩
  rintro i m S₀ H₀ ys σ H ⟨rfl, hle, o, ρ, S, hI, ho, R, ex⟩
  by_cases hlt : i < ds.length
  · refine .inr ⟨w.goes i H hlt (ex.trans R.grow.sh), fun S₀ H₀ ys σ H => ∃ o ρ S, I (i + 1) o ρ ∧ o.length = ys.length ∧ Rel Φ.K ⟨[], S₀, H₀⟩ ρ σ S H [] ∧ Ex S1 S, ?_, fun x H' hy => ?_⟩
    · rintro S' H' ys' σ' H1' ⟨o', ρ', S4, a1, a2, a3, a4⟩
      exact ⟨ds.length - (i + 1), by omega, rfl, hlt, o', ρ', S4, a1, a2, a3, a4⟩
    · obtain ⟨S2, d, hd1, st2, R2, rp⟩ := R.item ex (w.yields i H x H' hlt (ex.trans R.grow.sh) hy)
      obtain ⟨ρ2, hg2, hw2, hb2⟩ := hs i d o ρ hd1 hI
      refine ⟨d, ρ, ρ2, hg2, ⟨[], S₀, H₀⟩, S2, [], R2, .d rp, fun σ3 S3 H3 ad3 st3 R3 _ _ => ?_⟩
      obtain rfl := noAd R3 hw2
      have e3 := (ex.trans st2.s).trans st3.s
      have eb1 := eb.trans st1.s
      exact ⟨o, ρ2, _, hb2, S1, S3, e3, ho, R3, fun o4 ρ4 S' H' ys' σ4 S4 H4 hn e4 ho4 R4 => ⟨o4, ρ4, S4, hn, ho4, R4, e4⟩, fun o4 ρ4 S' H' ys' σ4 S4 H4 hn e4 ho4 R4 => kk.nx o4 ρ4 S' H' ys' σ4 S4 H4 hn (eb1.trans e4) ho4 R4,
        fun o4 ρ4 S' H' ys' σ4 S4 H4 hn e4 ho4 R4 => ⟨o4, ρ4, S4, hn, ho4, R4, e4⟩⟩
  · have e : i = ds.length := by omega
    subst e
    exact .inl ⟨w.stops H (ex.trans R.grow.sh), kk.nx o ρ S₀ H₀ ys σ S H (hd o ρ hI) ((eb.trans st1.s).trans ex) ho R⟩
end
end GX

/-! ### a generator def is called -/
namespace GX
open PySem PySem.Spec PyProof.Rows L2 GenW
open DL (Ex Rel Rp RpAll Rv RvAll D VD OD KnOk Kn SD SDs ED TD GD ItD tS tE tT tG tI Grow Step env0)
theorem rsm_start {Φ : Fm} {outs : List D} {done : Dn} {body : List Stmt} {ρ : DEnv} {s₀ s1 : Shared} {H₀ S H : Hp} {σ : L2.St} (hb : 0 < outs.length + done.n → GDs Φ (Br Φ.K outs done) [] ρ body { nx := fun o _ => done = .yes ∧ o.length = outs.length }) (I : Φ.I s₀ H₀ [] σ H s1)
    (R : Rel Φ.K ⟨[], S, H⟩ ρ σ S H []) : Rsm Φ (Br Φ.K outs done) (Br Φ.K outs done).tot (.fresh (.func body Φ.e0)) [] [] S s1 := by
  have key : ∀ n, n = (Br Φ.K outs done).tot → Rsm Φ (Br Φ.K outs done) n (.fresh (.func body Φ.e0)) [] [] S s1 := fun n hn => by
    cases n with
    | zero => exact trivial
    | succ m =>
      intro s' S' H' e1 e2 wk
      have I' := rebase I wk
      have hl := I'.1
      refine s1_func ?_
      refine (hb (by have : m + 1 = outs.length + done.n := hn; omega)).run (m + 1) [] S' H' s' [] (.func body Φ.e0) [] _ _ id id s' σ H' { nx := fun S₀ H₀ ys σ H => (Br Φ.K outs done).fin S₀ H₀ ys H, rt := fun _ _ _ _ _ => False } ⟨over_func, rfl, rfl, rfl⟩ hn ⟨fun n ys S₀ H₀ s₀ s fl hn hs => ?_, fun n ys S₀ H₀ s₀ s e hl0 hx => ?_⟩ I'
        ⟨S, S', e1, rfl, Rel.wake R e1 e2, fun o ρ S₀ H₀ ys σ S H h eb ho R => ⟨h.1, ho.symm.trans h.2, S, R.grow⟩, fun _ _ _ _ _ _ _ _ h => h.elim, fun _ _ _ _ _ _ _ _ h => h.elim⟩
      · cases fl with
        | next =>
          obtain ⟨σ2, H2, I2, q⟩ := hs
          exact s1_end (.ok (.ret .none)) (.inl ⟨.inl rfl, [], σ2, H2, I2, q⟩)
        | brk => obtain ⟨_, _, _, q⟩ := hs; exact False.elim q
        | cont => obtain ⟨_, _, _, q⟩ := hs; exact False.elim q
        | ret u => obtain ⟨_, _, _, _, _, q⟩ := hs; exact False.elim q
      · refine s1_wrap ?_
        rw [show Φ.A.over (.func body Φ.e0) [] = Φ.A.deeper Φ.e0 from over_func]
        have hx2 : wpAny (model Φ.P Φ.w) (Φ.A.deeper Φ.e0) (leaving Φ.e0 e) (fun _ s'' => CX Φ.P Φ.w Φ.outer (cutH Φ.L H₀) (Φ.s0 s₀) (Φ.E ys.length S₀ H₀) e s'' ∧ ∀ p ∈ Φ.pn, s''.heap.get? p.1 = some p.2) (fun _ _ => False) s := by
          have e1 : (Φ.Z ys.length s₀ S₀ H₀).env = Φ.e0 := Fm.env (H := H₀) hl0
          have hx : wpAny (model Φ.P Φ.w) (Φ.A.deeper (Φ.Z ys.length s₀ S₀ H₀).env) (leaving (Φ.Z ys.length s₀ S₀ H₀).env e) (fun _ s'' => CX Φ.P Φ.w Φ.outer (cutH Φ.L H₀) (Φ.s0 s₀) (Φ.E ys.length S₀ H₀) e s'' ∧ ∀ p ∈ Φ.pn, s''.heap.get? p.1 = some p.2) (fun _ _ => False) s := hx
          rw [e1] at hx
          exact hx
        exact wpAny_mono hx2 (fun _ s'' q => s1_end (.error e) (.inr ⟨e, rfl, q⟩)) fun _ s'' q => q.elim
  exact key _ rfl
/-- a generator def's promise: its arguments, all that it hands out, whether it ends behind that -/
abbrev GSpec := List D → List D → Dn → Prop
/-- a new generator -/
def GMk (P : Program) (w : World) (K : PySem.W.Frag) (mg : Str → Option Value) (base : Heap) (k : Nat) (outer : List PySem.Env) (S : Hp) (L : Nat) (outs : List D) (done : Dn) (u : Value) (s' : Shared) : Prop :=
  ∃ (a : Addr) (g : Nat) (body : List Stmt) (N : List Str) (qual : Str) (scope : Scope) (f : Addr) (cd : Value) (go : Obj),
    u = .ref a ∧ L < a ∧ s'.heap.get? a = some go ∧ (∀ h : Heap, h.get? a = some go → h.IsGen a g) ∧ s'.gens[g]? = some (.fresh (.func body (envOfC qual scope L f cd))) ∧
    (∃ o, s'.heap.get? L = some o) ∧ (∀ x c, (envOfC qual scope L f cd).cells.lookup x = some c → L ≤ c ∧ ∃ o, s'.heap.get? c = some o) ∧
    ∀ (Aw : Around), Room k Aw → Aw.frames = some outer → Rsm ⟨P, w, K, mg, base, N, qual, scope, f, cd, Aw, outer, done.E K outs.length, [(a, go)], L⟩ (Br K outs done) (Br K outs done).tot (.fresh (.func body (envOfC qual scope L f cd))) [] [] S s'
/-- behind the call: at most a tuple of the arguments is new beside it -/
def GCall (P : Program) (w : World) (K : PySem.W.Frag) (mg : Str → Option Value) (base : Heap) (k : Nat) (outer : List PySem.Env) (S H : Hp) (s : Shared) (outs : List D) (done : Dn) (r : Result) (s' : Shared) : Prop :=
  ∃ (u : Value) (S2 H2 : Hp) (sc : Shared), r = .ok (.ret u) ∧ ((S2 = S ∧ H2 = H) ∨ ∃ p xs, H p = none ∧ S2 = upd S p (.tup xs) ∧ H2 = upd H p (.tup xs)) ∧ Un (frs outer) [] H H2 s.heap sc.heap ∧ HOk P w H2 sc.heap ∧ sc.os = s.os ∧ AllBare sc.gens ∧
    s'.os = s.os ∧ AllBare s'.gens ∧ (∀ b o, sc.heap.get? b = some o → s'.heap.get? b = some o) ∧ GMk P w K mg base k outer S2 sc.heap.objs.size outs done u s'
def GFnD (P : Program) (w : World) (K : PySem.W.Frag) (mg : Str → Option Value) (base : Heap) (k : Nat) (f : Addr) (R : GSpec) : Prop :=
  ∀ (A : Around) (outer : List PySem.Env) (s : Shared) (S H : Hp) (us : List Value) (vs : List V) (ds outs : List D) (done : Dn), Room k A → Env0 P w K mg base A outer s H → Ex S H → Vals vs us → RpAll K S vs ds → R ds outs done →
    codeAny (model P w) A (.call (.ref f) ⟨us, []⟩) (GCall P w K mg base k outer S H s outs done) s
section
variable {P : Program} {w : World} {K : PySem.W.Frag} {mg : Str → Option Value} {base : Heap} {k : Nat} {x qual : Str} {params : Arguments} {body : List Stmt} {scope : Scope} {f : Addr} {fd : FuncData} {N ps : List Str} {R : GSpec}
/-- the body's law -/
abbrev GBody (P : Program) (w : World) (K : PySem.W.Frag) (mg : Str → Option Value) (base : Heap) (k : Nat) (N : List Str) (qual : Str) (scope : Scope) (f : Addr) (body : List Stmt) (R : GSpec) : Prop :=
  ∀ (cdv : Value) (Aw : Around) (outer : List PySem.Env) (pn : List (Addr × Obj)) (L : Nat), Room k (Aw.deeper (envOfC qual scope L f cdv)) → ∀ ds outs done, R ds outs done → 0 < outs.length + done.n →
      GDs ⟨P, w, K, mg, base, N, qual, scope, f, cdv, Aw, outer, done.E K outs.length, pn, L⟩ (Br K outs done) [] (env0 N (ds.map VD.d) []) body { nx := fun o _ => done = .yes ∧ o.length = outs.length }
theorem made (S0 : GScope N ps scope) {cdv : Value} (hbody : GBody P w K mg base k N qual scope f body R)
    {A : Around} {outer : List PySem.Env} {s s1 : Shared} {S H : Hp} {us : List Value} {vs : List V} {ds outs : List D} {done : Dn} (e0 : Env0 P w K mg base A outer s H) (hS : Ex S H) (r : Vals vs us) (rp : RpAll K S vs ds) (hl : vs.length = ps.length) (hR : R ds outs done)
    (x : InCallC s s.heap.objs.size (bindL (envOfC qual scope s.heap.objs.size f cdv).kindOf (ps.zip us) fun _ => none) (cellsFrom (s.heap.objs.size + 1) scope.names []) (bindC (envOfC qual scope s.heap.objs.size f cdv).kindOf (ps.zip us) fun _ => none) s1)
    {go : Obj} {nm qn : Value} {tk2 : Nat} (hgc : go.cls = .type "generator") (hgd0 : go.data = .fields #[.int s1.gens.size 0, nm, qn]) (hgs : go.slots = #[]) (hgp : (s1.heap.push go).get? s1.heap.objs.size = some go) :
    GMk P w K mg base (k + 1) outer S s.heap.objs.size outs done (.ref s1.heap.objs.size) { s1 with gens := s1.gens.push (.fresh (.func body (envOfC qual scope s.heap.objs.size f cdv))), toks := tk2, heap := s1.heap.push go } := by
  have lt1 : s.heap.objs.size < s1.heap.objs.size := x.toInCall.ns.lt
  have sz1 : s.heap.objs.size ≤ s1.heap.objs.size := Nat.le_of_lt lt1
  have kp2 : ∀ b o, s1.heap.get? b = some o → (s1.heap.push go).get? b = some o := fun b o e => Heap.get?_push_of_some _ e
  have hgd : ∀ v, go.data ≠ .cell v := fun v q => by rw [hgd0] at q; cases q
  have bare1 : AllBare s1.gens := by
    obtain ⟨h1, tk, rfl, hk⟩ := x.done
    exact e0.bare
  have os1 : s1.os = s.os := by
    obtain ⟨h1, tk, rfl, hk⟩ := x.done
    rfl
  have I0 : ∀ (Aw : Around), Room (k + 1) Aw → Aw.frames = some outer → Inv (gcxOf P w K mg base N qual scope f cdv Aw outer s H (fun _ _ _ => False) []) [] (start N vs) H s1 := fun Aw hrw hfr =>
    inv_startG S0 hrw.hd ⟨hfr, e0.mod, e0.bs, e0.bsz, e0.funs, e0.frf, e0.hok, e0.bare⟩ hl r x
  refine ⟨s1.heap.objs.size, s1.gens.size, body, N, qual, scope, f, cdv, go, rfl, lt1, hgp, fun h e => ⟨go, nm, qn, e, hgc, hgd0, hgs⟩, Array.getElem?_push_size .., ?_, fun y c e => ?_, fun Aw hrw hfr => ?_⟩
  · obtain ⟨o, _, _, ho, _⟩ := x.toInCall.ns
    exact ⟨o, kp2 _ _ ho⟩
  · have e' : (cellsFrom (s.heap.objs.size + 1) scope.names []).lookup y = some c := e
    obtain ⟨o, ho, _⟩ := x.cell y c e'
    exact ⟨Nat.le_of_lt (x.above y c (PySem.mem_of_lookup e')), o, kp2 _ _ ho⟩
  · have I1 := I0 Aw hrw hfr
    have I2 : Inv (gcxOf P w K mg base N qual scope f cdv Aw outer s H (fun _ _ _ => False) []) [] (start N vs) H { s1 with gens := s1.gens.push (.fresh (.func body (envOfC qual scope s.heap.objs.size f cdv))), toks := tk2, heap := s1.heap.push go } :=
      I1.call' (ch := []) rfl (Un.kept kp2) (I1.hok.kept kp2) (AllBare.push bare1 rfl) fun b z => by simp at z
    have y1 : H s1.heap.objs.size = none := I1.hok.fresh (Nat.le_refl _)
    have y3 : s1.heap.objs.size ∉ frs outer := I1.nofs (Nat.le_refl _)
    have I3 := Inv.pinnedG (pn := [(s1.heap.objs.size, go)]) (pins := []) I2 fun p hp => by
      have e := List.mem_singleton.mp (show p ∈ [(s1.heap.objs.size, go)] by simpa using hp)
      rw [e]
      exact ⟨hgp, y1, Nat.ne_of_gt lt1, y3, hgd⟩
    -- nothing stands behind L at the entry
    have ec : cut s.heap.objs.size s.heap = s.heap := by
      show (⟨s.heap.objs.extract 0 s.heap.objs.size, s.heap.life⟩ : Heap) = s.heap
      rw [Array.extract_size]
    have eH : cutH s.heap.objs.size H = H := funext fun b => by
      unfold cutH
      split
      · rfl
      · exact (e0.hok.fresh (Nat.le_of_not_lt (by assumption))).symm
    have hrb : Room k (Aw.deeper (envOfC qual scope s.heap.objs.size f cdv)) := hrw.deeper _
    refine rsm_start (Φ := ⟨P, w, K, mg, base, N, qual, scope, f, cdv, Aw, outer, done.E K outs.length, [(s1.heap.objs.size, go)], s.heap.objs.size⟩) (s₀ := s) (H₀ := H) (H := H) (σ := start N vs) (hbody cdv Aw outer _ _ hrb ds outs done hR) ⟨Nat.le_refl _, fun p hp => ?_, ?_⟩ ?_
    · have e := List.mem_singleton.mp (show p ∈ [(s1.heap.objs.size, go)] by simpa using hp)
      rw [e]
      exact sz1
    · show Inv (gcxOf P w K mg base N qual scope f cdv Aw outer { s with heap := cut s.heap.objs.size s.heap } (cutH s.heap.objs.size H) _ _) _ _ _ _
      rw [ec, eH]
      exact I3
    · have hn : (ds.map VD.d).length ≤ N.length := by
        have := congrArg List.length S0.pre
        rw [List.length_take] at this
        rw [List.length_map, ← rp.length, hl]; omega
      exact Rel.start (M := []) (os := []) hS (RvAll.of_d rp) ⟨rfl, fun n o e => by simp at e⟩ .nil hn
theorem run_gen {oc : Value} {od : Option Addr} {dV kV doc pm cdv ct : Value} {an : Option Addr} {osl : Array (Option Value)} (lk : K.lookup f = some ⟨oc, od, .func (PySem.W.fnOf x qual params body scope dV kV doc pm an cdv ct), osl⟩) (hcd : PySem.W.codeIn K cdv qual = true)
    (S0 : GScope N ps scope) (hbody : GBody P w K mg base k N qual scope f body R) {A : Around} {outer : List PySem.Env} {s : Shared} {S H : Hp} {args : Args} {outs : List D} {done : Dn} (hr : Room (k + 1) A) (e0 : Env0 P w K mg base A outer s H)
    (hb : ∀ (A' : Around) (Ex' : Value → Shared → Prop) (Q : List (Str × Value) → Shared → Prop), (∀ (S2 H2 : Hp) (sc : Shared) (vs : List V) (us : List Value) (ds : List D), ((S2 = S ∧ H2 = H) ∨ ∃ p xs, H p = none ∧ S2 = upd S p (.tup xs) ∧ H2 = upd H p (.tup xs)) →
      Env0 P w K mg base A outer sc H2 → Un (frs outer) [] H H2 s.heap sc.heap → sc.os = s.os → Ex S2 H2 → Vals vs us → RpAll K S2 vs ds → vs.length = ps.length → R ds outs done → Q (ps.zip us) sc) → wpAny (model P w) A' (bindArgs (PySem.W.fnOf x qual params body scope dV kV doc pm an cdv ct) args) Q Ex' s) :
    codeAny (model P w) A (.call (.ref f) args) (GCall P w K mg base (k + 1) outer S H s outs done) s := by
  have KX : K.In s.heap := e0.mod.kin.keeps fun b o e => (e0.bs b o e).1
  refine codeAny_call_generator hr.depth (KX _ _ lk) rfl S0.co S0.gen rfl (PySem.W.codeRec_of KX hcd) (hb _ _ _ fun S2 H2 sc vs us ds hS2 e2 un ho hx r rp hl hR => ?_)
  have lim : sc.heap.NoLimit := e0.mod.nolimit.keeps fun b o e => (e2.bs b o e).1
  have hkind : ∀ y ∈ ps.zip us, scope.names.lookup y.1 = some .local ∨ (scope.names.lookup y.1 = some .cell ∧ ((cellsFrom (sc.heap.objs.size + 1) scope.names []).lookup y.1).isSome = true) := fun y hy => by
    rcases S0.par y.1 (List.of_mem_zip hy).1 with q | q
    · exact .inl q
    · exact .inr ⟨q, PySem.W.cellsFrom_some _ _ _ (.inl q)⟩
  refine wpAny_newFunctionEnv_cells (s := sc) S0.kind hkind fun env he s1 x => ?_
  subst he
  have os1 : s1.os = sc.os := by
    obtain ⟨h1, tk, rfl, hk⟩ := x.done
    rfl
  have bare1 : AllBare s1.gens := by
    obtain ⟨h1, tk, rfl, hk⟩ := x.done
    exact e2.bare
  refine ⟨lim.keeps x.toInCall.keep, _, S2, H2, sc, rfl, hS2, un, e2.hok, ho, e2.bare, os1.trans ho, AllBare.push bare1 rfl, fun b o e => Heap.get?_push_of_some _ (x.toInCall.keep b o e), ?_⟩
  exact made S0 hbody e2 hx r rp hl hR x rfl rfl rfl (Heap.get?_push_size _ rfl)
/-- def g(a, *rest) -/
def starG (R : GSpec) : GSpec := fun ds outs done => ∃ (z : D) (rest : List D), ds = z :: rest ∧ rest.length ≤ sizeLine ∧ R [z, .tup rest] outs done
theorem gfn_star {p1 pv : Str} (F : FunD K x qual params body scope [] [] f fd) (S0 : GScope N [p1, pv] scope)
    (h0 : ∀ (kV doc pm : Value) (an : Option Addr) (cdv ct a : Value), bindArgs (PySem.W.fnOf x qual params body scope .none kV doc pm an cdv ct) ⟨[a], []⟩ = (newTuple [] >>= fun t => pure [(p1, a), (pv, t)]))
    (h1 : ∀ (kV doc pm : Value) (an : Option Addr) (cdv ct a r : Value) (rs : List Value), bindArgs (PySem.W.fnOf x qual params body scope .none kV doc pm an cdv ct) ⟨a :: r :: rs, []⟩ = (newTuple (r :: rs) >>= fun t => pure [(p1, a), (pv, t)]))
    (hbody : GBody P w K mg base k N qual scope f body R) : GFnD P w K mg base (k + 1) f (starG R) := by
  intro A outer s S H us vs ds outs done hr e0 hS r rp hR
  obtain ⟨oc, od, dV, kV, doc, pm, an, cdv, ct, osl, rfl, lk, hcd, hdf, _⟩ := F.ex
  have hdV : dV = .none := by
    rcases hdf with ⟨_, e⟩ | ⟨e, _⟩
    · exact e
    · exact absurd rfl e
  subst hdV
  obtain ⟨z, rest, rfl, hz, hR⟩ := hR
  cases rp with
  | @cons v vs' _ _ rz rrest =>
    cases us with
    | nil => cases r
    | cons u us' =>
      obtain ⟨ru, rus⟩ : RelV v u ∧ Vals vs' us' := by cases r with | cons a b => exact ⟨a, b⟩
      have hb : bindArgs (PySem.W.fnOf x qual params body scope .none kV doc pm an cdv ct) ⟨u :: us', []⟩ = (newTuple us' >>= fun t => pure [(p1, u), (pv, t)]) := by
        cases us' with
        | nil => exact h0 kV doc pm an cdv ct u
        | cons r1 rs => exact h1 kV doc pm an cdv ct u r1 rs
      refine run_gen lk hcd S0 hbody hr e0 fun A' Ex' Q h => ?_
      rw [hb]
      have hl2 : us'.length ≤ sizeLine := by rw [← rus.length, rrest.length]; exact hz
      have hn : H s.heap.objs.size = none := e0.hok.fresh (Nat.le_refl _)
      refine wpAny_bind (wpAny_newTuple (wpAny_pure ?_) hl2)
      have new : ObjOk P w (upd H s.heap.objs.size (.tup vs')) (s.heap.push ({ cls := .type "tuple", data := .seq us'.toArray } : Obj)) s.heap.objs.size (.tup vs') := ⟨by rw [rrest.length]; exact hz, us', rus, ⟨_, Heap.get?_push_size _ rfl, rfl, _, rfl⟩⟩
      have un := StX.un_laid (fs := frs outer) (s := s) (o := ({ cls := .type "tuple", data := .seq us'.toArray } : Obj)) (u := .tup vs') hn
      have hSp : S s.heap.objs.size = none := hS.back hn
      have st : Ex S (upd S s.heap.objs.size (.tup vs')) := .new hSp
      exact h (upd S s.heap.objs.size (.tup vs')) (upd H s.heap.objs.size (.tup vs')) _ [v, .ref s.heap.objs.size] [u, Value.ref s.heap.objs.size] [z, .tup rest] (.inr ⟨_, _, hn, rfl, rfl⟩) (StX.env0_laid e0 new) un rfl hS.both
        (.cons ru (.cons rfl .nil)) (.cons (rz.mono st) (.cons (.tup upd_same (rrest.mono st)) .nil)) rfl hR
end
end GX

/-! ### a generator's caller -/
namespace GX
open PySem PySem.Spec PyProof.Rows L2 GenW
open DL (Ex Rel Rp RpAll Rv RvAll D VD OD KnOk Kn SD SDs ED AD TD GD ItD tS tE tA tT tG tI Grow Step env0 AllD)
/-! #### calls -/
/-- a def that is a generator's, as it may be called here -/
structure CGGs (P : Program) (w : World) (K : PySem.W.Frag) (mg : Str → Option Value) (base : Heap) (A : Around) (x : Str) (R : GSpec) : Prop where
  ex : ∃ f j, GFnD P w K mg base j f R ∧ Room (j + 4) A ∧ mg x = some (.ref f) ∧ PySem.W.keepIn K (.ref f) = true
structure CGMs (P : Program) (w : World) (K : PySem.W.Frag) (mg : Str → Option Value) (base : Heap) (A : Around) (C : Addr) (m : Str) (R : GSpec) : Prop where
  cl : Cls K C
  ex : ∃ f j, GFnD P w K mg base j f R ∧ Room (j + 4) A ∧ Meth K C m f
/-- an expression makes a generator -/
def GEp (X : Cx) (pins : List (Addr × Obj)) (σ : L2.St) (fr : DL.Fr) (S : Hp) (ad : List Addr) (ρ' : DEnv) (outs : List D) (done : Dn) (u : Value) (s' : Shared) : Prop :=
  ∃ (S2 H2 : Hp) (ad2 : List Addr) (sc : Shared) (k : Nat), Inv X pins σ H2 sc ∧ Step S ad S2 ad2 ∧ Rel X.K fr ρ' σ S2 H2 ad2 ∧ s'.os = sc.os ∧ AllBare s'.gens ∧ (∀ b o, sc.heap.get? b = some o → s'.heap.get? b = some o) ∧ Room (k + 4) X.A ∧
    GMk X.prog X.w X.K X.mg X.base k X.stack S2 sc.heap.objs.size outs done u s'
def GE (X : Cx) (ρ : DEnv) (e : Expr) (outs : List D) (done : Dn) (ρ' : DEnv) : Prop := ∀ (pins : List (Addr × Obj)) (s : Shared) (σ : L2.St) (H : Hp) (fr : DL.Fr) (S : Hp) (ad : List Addr), Inv X pins σ H s → Rel X.K fr ρ σ S H ad →
  wpAny (model X.prog X.w) X.A (eval e X.env) (GEp X pins σ fr S ad ρ' outs done) X.xe s
section
variable {X : Cx} {pins : List (Addr × Obj)} {σ : L2.St} {H H1 H2 S S1 S2 : Hp} {s s1 s2 : Shared} {fr : DL.Fr} {ad ad1 : List Addr} {ρ ρ1 ρ2 : DEnv} {R : GSpec} {f : Addr} {j : Nat} {outs ds : List D} {done : Dn} {E : Value → Shared → Prop} {a e : Expr} {es : List Expr} {xs : List VD} {n m : Str} {pos pp apos : Pos} {C : Addr} {ns : List Str} {dt : List D}
theorem run_gfnD {us : List Value} {vs : List V} (F : GFnD X.prog X.w X.K X.mg X.base j f R) (hr : Room (j + 4) X.A) (I : Inv X pins σ H1 s) (st : Step S ad S1 ad1) (A : Rel X.K fr ρ σ S1 H1 ad1) (r : Vals vs us) (rp : RpAll X.K S1 vs ds) (hR : R ds outs done) :
    wpAny (model X.prog X.w) X.A (call (.ref f) us) (GEp X pins σ fr S ad ρ outs done) E s := by
  refine wpAny_call (codeAny_mono (F X.A X.stack s S1 H1 us vs ds outs done (hr.mono (by omega)) I.env0 A.grow.sh r rp hR) fun r' s' h => ?_)
  obtain ⟨u, S2, H2, sc, rfl, hS, un, hok, os1, b1, os2, b2, kp, mk⟩ := h
  have I2 : Inv X pins σ H2 sc := I.call' (ch := []) os1 un hok b1 fun b z => by simp at z
  rcases hS with ⟨rfl, rfl⟩ | ⟨p, xs, hp, rfl, rfl⟩
  · exact ⟨S2, H2, ad1, sc, j, I2, st, A, os2.trans os1.symm, b2, kp, hr, mk⟩
  · obtain ⟨A2, st2⟩ := A.newS (o := .tup xs) hp
    exact ⟨_, _, ad1, sc, j, I2, st.trans st2, A2, os2.trans os1.symm, b2, kp, hr, mk⟩
theorem ge_call (hC : CGGs X.prog X.w X.K X.mg X.base X.A n R) (ha : AD X ρ (e :: es) xs ρ1) (hd : AllD xs ds) (hR : R ds outs done) (hg : Gl X n) (hdb : (n == ("__debug__" : Str)) = false := by decide)
    (he : starEach (e :: es) X.env = (false, eval e X.env) :: starEach es X.env := by rfl) (hpl : (backTo pos (starEach es X.env)).any (·.1) = false := by rfl) : GE X ρ (.Call (.Name n pp) (e :: es) [] pos) outs done ρ1 := by
  obtain ⟨f, j, F, hr, hm, hk⟩ := hC.ex
  intro pins s σ H fr S ad I A
  refine wpAny_Call_Name_kw (ld_glob I hg hm ?_ hdb)
  refine PySem.W.callWith_K (h₀ := X.base) I.ok.mod.kin hk (thn (ha.run pos pins s σ H (fun vs H' => ∃ S' ad', Step S ad S' ad' ∧ Rel X.K fr ρ1 σ S' H' ad' ∧ RpAll X.K S' vs ds) I ⟨fr, S, ad, A, fun S' H' ad' vs st' A' r' => ⟨S', ad', st', A', hd.rp r'⟩⟩) fun us s1 ⟨vs, H1, I1, r, S1, ad1, st1, A1, r1⟩ => ⟨I1.kIn, ?_⟩) he hpl
  exact run_gfnD F hr I1 st1 A1 r r1 hR
/-! #### its own things are held while it sleeps -/
open Classical in
noncomputable def addO (Pb : Addr → Prop) (h : Heap) (H : Hp) : Hp := fun b => if Pb b then (h.get? b).map (fun o => HO.ext fun h' => h'.get? b = some o) else H b
open Classical in
noncomputable def dropO (Pb : Addr → Prop) (H : Hp) : Hp := fun b => if Pb b then none else H b
variable {Pb : Addr → Prop} {h : Heap}
theorem addO_in {b : Addr} {o : Obj} (hb : Pb b) (e : h.get? b = some o) : addO Pb h H b = some (.ext fun h' => h'.get? b = some o) := by
  unfold addO; rw [if_pos hb, e]; rfl
theorem addO_out {b : Addr} (hb : ¬ Pb b) : addO Pb h H b = H b := by unfold addO; rw [if_neg hb]
theorem dropO_in {b : Addr} (hb : Pb b) : dropO Pb H b = none := by unfold dropO; rw [if_pos hb]
theorem dropO_out {b : Addr} (hb : ¬ Pb b) : dropO Pb H b = H b := by unfold dropO; rw [if_neg hb]
theorem addO_of {b : Addr} {u : HO} (hn : ∀ b, Pb b → H b = none) (e : H b = some u) : ¬ Pb b ∧ addO Pb h H b = some u := by
  have : ¬ Pb b := fun z => by rw [hn b z] at e; cases e
  exact ⟨this, (addO_out this).trans e⟩
theorem addO_some {b : Addr} {u : HO} (e : addO Pb h H b = some u) : (Pb b ∧ ∃ o, h.get? b = some o ∧ u = .ext fun h' => h'.get? b = some o) ∨ (¬ Pb b ∧ H b = some u) := by
  by_cases hb : Pb b
  · left
    refine ⟨hb, ?_⟩
    unfold addO at e
    rw [if_pos hb] at e
    cases q : h.get? b with
    | none => rw [q] at e; cases e
    | some o => rw [q] at e; cases e; exact ⟨o, rfl, rfl⟩
  · exact .inr ⟨hb, (addO_out hb).symm.trans e⟩
theorem hok_addO {P : Program} {w : World} (ok : HOk P w H h) (hn : ∀ b, Pb b → H b = none) : HOk P w (addO Pb h H) h := fun b u e => by
  rcases addO_some e with ⟨hb, o, e1, rfl⟩ | ⟨hb, e1⟩
  · exact ⟨e1, ⟨o, e1⟩, fun h1 h2 q k => k _ q⟩
  · exact (ok b u e1).stay (fun _ _ _ q => q) (fun c q => (addO_of hn q).2) fun c xs q => (addO_of hn q).2
theorem hok_dropO {P : Program} {w : World} (ok : HOk P w H h) (hn : ∀ b u, Pb b → H b = some u → ∃ φ, u = .ext φ) : HOk P w (dropO Pb H) h := fun b u e => by
  have hb : ¬ Pb b := fun z => by rw [dropO_in z] at e; cases e
  rw [dropO_out hb] at e
  refine (ok b u e).stay (fun _ _ _ q => q) (fun c q => ?_) fun c xs q => ?_
  · rw [dropO_out fun z => by obtain ⟨φ, z2⟩ := hn c _ z q; cases z2]; exact q
  · rw [dropO_out fun z => by obtain ⟨φ, z2⟩ := hn c _ z q; cases z2]; exact q
theorem inv_dropO (I : Inv X pins σ H s) (hn : ∀ b u, Pb b → H b = some u → ∃ φ, u = .ext φ) : Inv X pins σ (dropO Pb H) s :=
  have keep : ∀ b u, H b = some u → (∀ φ, u ≠ .ext φ) → dropO Pb H b = some u := fun b u e ne => (dropO_out fun z => (hn b u z e).elim ne).trans e
  I.call' (ch := []) rfl ⟨fun b o e _ _ _ => e, fun b o e _ _ _ => ⟨_, e⟩, fun b o e n _ => by
      by_cases z : Pb b
      · exact dropO_in z
      · exact (dropO_out z).trans n, fun b o e _ => ⟨_, e⟩, fun b xs e => keep b _ e (fun _ z => by cases z), fun b o u e => keep b _ e (fun _ z => by cases z), fun b ps e => ⟨#[], by rw [keep b _ e (fun _ z => by cases z)]; simp⟩⟩ (hok_dropO I.hok hn) I.bare fun b z => by simp at z
theorem inv_gens {G : Array GenState} (I : Inv X pins σ H s) (hb : AllBare G) : Inv X pins σ H { s with gens := G } :=
  I.call' (s' := { s with gens := G }) (ch := []) rfl Un.refl I.hok hb fun b z => by simp at z
end
end GX

/-! ### next(g) in its caller; what the caller does meanwhile -/
namespace GX
open PySem PySem.Spec PyProof.Rows L2 GenW
open DL (Ex Rel Rp RpAll Rv RvAll D VD OD OR KnOk Kn SD SDs ED AD TD GD ItD tS tE tA tT tG tI Grow Step env0 AllD)
/-- what stood ahead of L -/
structure Old (X : Cx) (pins : List (Addr × Obj)) (L : Nat) : Prop where
  loc : X.env.locals < L
  cells : ∀ x c, X.env.cells.lookup x = some c → c < L
  pins : ∀ p ∈ X.pn ++ pins, p.1 < L
  s0 : X.s_0.heap.objs.size ≤ L
abbrev fmX (X : Cx) (A : Around) (N : List Str) (qual : Str) (scope : Scope) (f : Addr) (cd : Value) (a : Addr) (go : Obj) (L : Nat) (E : Nat → Hp → Hp → XK) : Fm := ⟨X.prog, X.w, X.K, X.mg, X.base, N, qual, scope, f, cd, A, X.stack, E, [(a, go)], L⟩
/-- it sleeps behind i items -/
def Slp (Φ : Fm) (a : Addr) (g : Nat) (go : Obj) (outs : List D) (done : Dn) (i : Nat) (ip : List (Addr × Obj)) (S H : Hp) (s : Shared) : Prop :=
  ∃ (gs : GenState) (ys : List V) (ssl : Shared) (Sz : Hp), ys.length = i ∧ s.gens[g]? = some gs ∧ (i = 0 ∨ isSusp gs = true) ∧ s.heap.get? a = some go ∧ Ex Sz S ∧
    (∀ b, Φ.Own ip b → Φ.L ≤ b ∧ ∃ o, ssl.heap.get? b = some o ∧ s.heap.get? b = some o ∧ H b = none) ∧ Rsm Φ (Br Φ.K outs done) ((Br Φ.K outs done).tot - i) gs ys ip Sz ssl
section
variable {X : Cx} {pins : List (Addr × Obj)} {σ : L2.St} {H H1 H2 S S1 S2 : Hp} {s s0 s1 s2 s3 : Shared} {fr : DL.Fr} {ad ad1 ad2 : List Addr} {ρ ρ1 ρ2 : DEnv} {outs ds : List D} {done : Dn} {E : Value → Shared → Prop} {A : Around} {N : List Str} {qual : Str} {scope : Scope} {f a : Addr} {cd : Value} {go : Obj} {L g i : Nat} {ip : List (Addr × Obj)}
theorem old_of (I : Inv X pins σ H s) : Old X pins s.heap.objs.size :=
  ⟨I.lt, fun x c e => by obtain ⟨v, o, ho, _⟩ := I.cell x c e; exact Heap.lt_size ho, fun p hp => Heap.lt_size (I.pin p hp).1, I.sz⟩
/-- the caller's state behind a piece of the generator's run -/
theorem inv_back {σ2 : L2.St} (I : Inv X pins σ H s) (old : Old X pins L) (J : (fmX X A N qual scope f cd a go L (done.E X.K outs.length)).I s0 H ip σ2 H2 s2) (h0 : s0.heap = s.heap) (o0 : s0.os = s.os) (ex : Ex H H2) (o3 : s3.os = s2.os) (k3 : ∀ b o, s2.heap.get? b = some o → s3.heap.get? b = some o) (b3 : AllBare s3.gens) : Inv X pins σ H2 s3 := by
  obtain ⟨hl, hp, J⟩ := J
  have os2 : s2.os = s0.os := J.os
  have un : Un (frs X.stack) [] (cutH L H) H2 (cut L s0.heap) s2.heap := J.base
  rw [h0] at un
  have young : ∀ b o, s.heap.get? b = some o → b ∉ List.range' L (s.heap.objs.size - L) → b < L := fun b o e hb => by
    have h1 := Heap.lt_size e
    rcases Nat.lt_or_ge b L with z | z
    · exact z
    · have h3 : L + (s.heap.objs.size - L) = s.heap.objs.size := Nat.add_sub_cancel' (Nat.le_trans z (Nat.le_of_lt h1))
      exact absurd (List.mem_range'_1.mpr ⟨z, by rw [h3]; exact h1⟩) hb
  have look : ∀ b o, s.heap.get? b = some o → b < L → (cut L s.heap).get? b = some o := fun b o e hb => by rw [cut_get hb]; exact e
  refine I.call' (ch := List.range' L (s.heap.objs.size - L)) ((o3.trans os2).trans o0) ⟨fun b o e n hb hc => ?_, fun b o e n hb hc => ?_, fun b o e n hc => ?_, fun b o e hc => ?_, fun b xs e => ex _ _ e, fun b o u e => ex _ _ e, fun b ps e => ⟨#[], by rw [ex _ _ e]; simp⟩⟩ (J.hok.kept k3) b3 fun b hb => ?_
  · have hL := young b o e hc
    exact k3 _ _ (un.keep b o (look b o e hL) ((cutH_lt hL).trans n) hb (by simp))
  · have hL := young b o e hc
    obtain ⟨sl, q⟩ := un.slot b o (look b o e hL) ((cutH_lt hL).trans n) hb (by simp)
    exact ⟨sl, k3 _ _ q⟩
  · have hL := young b o e hc
    exact un.free b o (look b o e hL) ((cutH_lt hL).trans n) (by simp)
  · have hL := young b o e hc
    obtain ⟨o', q⟩ := un.there b o (look b o e hL) (by simp)
    exact ⟨o', k3 _ _ q⟩
  · have hL := (List.mem_range'_1.mp hb).1
    exact ⟨.inr (Nat.le_trans old.s0 hL), Nat.ne_of_gt (Nat.lt_of_lt_of_le old.loc hL), fun x c e => Nat.ne_of_lt (Nat.lt_of_lt_of_le (old.cells x c e) hL), fun p hp => Nat.ne_of_lt (Nat.lt_of_lt_of_le (old.pins p hp) hL)⟩
/-- an exception of a piece is in the caller's air -/
theorem of_piece {W : WX} {E' : XK} {u : Value} {sw : Shared} (I : Inv X pins σ H s) (old : Old X pins L) (hw : sw.heap = cut L s.heap) (ow : sw.os = s.os) (hW : ∀ cls d H', E' cls d H' → Ex H H' ∧ W cls d σ H') (c : CX X.prog X.w X.stack (cutH L H) sw E' u s2)
    (k3 : s3.heap = s2.heap) (o3 : s3.os = s2.os) (b3 : AllBare s3.gens) : XE X W u s3 := by
  obtain ⟨a, B, H', cls, d, rfl, fl, hok, ub, na, eos, _, hE⟩ := c
  obtain ⟨ex, hw2⟩ := hW _ _ _ hE
  rw [hw] at ub
  obtain ⟨G, g1, g2⟩ := restrict s3.heap fun b => (B.get? b).isSome || decide (b ∈ frs X.stack)
  have st : B.StaysIn s3.heap := by rw [k3]; exact fl.1
  have inB : ∀ b o, B.get? b = some o → G.get? b = some o := fun b o q => (g1 b (by simp [q])).trans (st b o q)
  have inF : ∀ b, b ∈ frs X.stack → G.get? b = s2.heap.get? b := fun b hb => by rw [g1 b (by simp [hb]), k3]
  have ofG : ∀ b o, G.get? b = some o → s3.heap.get? b = some o ∧ ((B.get? b).isSome = true ∨ b ∈ frs X.stack) := by
    intro b o q
    cases z : ((B.get? b).isSome || decide (b ∈ frs X.stack)) with
    | false =>
      rw [g2 b z] at q
      cases q
    | true =>
      rw [g1 b z] at q
      exact ⟨q, by simpa [Bool.or_eq_true] using z⟩
  have young : ∀ b o, s.heap.get? b = some o → b ∉ List.range' L (s.heap.objs.size - L) → b < L := by
    intro b o q hb
    have h1 := Heap.lt_size q
    rcases Nat.lt_or_ge b L with z | z
    · exact z
    · have h3 : L + (s.heap.objs.size - L) = s.heap.objs.size := Nat.add_sub_cancel' (Nat.le_trans z (Nat.le_of_lt h1))
      exact absurd (List.mem_range'_1.mpr ⟨z, by rw [h3]; exact h1⟩) hb
  have seen : ∀ b o, s.heap.get? b = some o → b < L → (cut L s.heap).get? b = some o := fun b o q hb => (cut_get hb).trans q
  refine ⟨a, B, { s3 with heap := G }, pins, σ, H', cls, d, rfl, ?_, fun b o q hb => ?_, Heap.UpToSlots.of_keeps fun b o q => (ofG b o q).1, .inr (.inl (by rw [k3]; exact fl)), na, rfl, b3, hw2⟩
  · refine I.call' (ch := List.range' L (s.heap.objs.size - L)) (s' := { s3 with heap := G }) ((o3.trans eos).trans ow) ⟨fun b o q n hb hc => ?_, fun b o q n hb hc => ?_, fun b o q n hc => ?_, fun b o q hc => ?_, fun b xs q => ex _ _ q, fun b o v q => ex _ _ q, fun b ps q => ⟨#[], by rw [ex _ _ q]; simp⟩⟩ (hok.kept inB) b3 fun b hb => ?_
    · have lt := young b o q hc
      exact inB b o (ub.keep b o (seen b o q lt) ((cutH_lt lt).trans n) hb)
    · have lt := young b o q hc
      obtain ⟨sl, z⟩ := ub.slot b o (seen b o q lt) hb
      exact ⟨sl, (inF b hb).trans z⟩
    · have lt := young b o q hc
      exact ub.free b o (seen b o q lt) ((cutH_lt lt).trans n)
    · have lt := young b o q hc
      by_cases hb : b ∈ frs X.stack
      · obtain ⟨sl, z⟩ := ub.slot b o (seen b o q lt) hb
        exact ⟨_, (inF b hb).trans z⟩
      · obtain ⟨o', z⟩ := ub.there b o (seen b o q lt) hb
        exact ⟨o', inB b o' z⟩
    · have lt := (List.mem_range'_1.mp hb).1
      exact ⟨.inr (Nat.le_trans old.s0 lt), Nat.ne_of_gt (Nat.lt_of_lt_of_le old.loc lt), fun x c z => Nat.ne_of_lt (Nat.lt_of_lt_of_le (old.cells x c z) lt), fun p hp => Nat.ne_of_lt (Nat.lt_of_lt_of_le (old.pins p hp) lt)⟩
  · obtain ⟨q2, h⟩ := ofG b o q
    rcases h with h | h
    · obtain ⟨o', z⟩ := Option.isSome_iff_exists.mp h
      have z2 := st b o' z
      rw [q2] at z2
      cases z2
      exact z
    · exact absurd h hb
/-- next(g) -/
theorem Slp.next {Q : Option Value → Shared → Prop} (hA : A.handled = none) (hd : A.depth < recursionLimit) (hfr : A.frames = some X.stack) (hg : ∀ h : Heap, h.get? a = some go → h.IsGen a g)
    (I : Inv X pins σ H s) (hSH : Ex S H) (old : Old X pins L) (Z : Slp (fmX X A.in1 N qual scope f cd a go L (done.E X.K outs.length)) a g go outs done i ip S H s) (hi : i < outs.length ∨ (done ≠ .no ∧ i = outs.length))
    (hY : ∀ v x d s2 S2 H2 ip2, RelV x v → outs[i]? = some d → Rp X.K S2 x d → Grow [] S H S2 H2 → Inv X pins σ H2 s2 → Slp (fmX X A.in1 N qual scope f cd a go L (done.E X.K outs.length)) a g go outs done (i + 1) ip2 S2 H2 s2 → Q (some v) s2)
    (hE : done = .yes → i = outs.length → ∀ s2 S2 H2, Grow [] S H S2 H2 → Inv X pins σ H2 s2 → Q none s2)
    (hX : ∀ x, done = .ex x → i = outs.length → ∀ (e : Value) (s1 : Shared), CX X.prog X.w X.stack (cutH L H) { s.setGen g .running with heap := cut L s.heap } (fun cls d H' => ∃ S', Grow [] S H S' H' ∧ DL.IsX X.K S' H' cls d x) e s1 →
      NotStop (model X.prog X.w) e s1.heap ∧ E e (s1.setGen g .finished)) : wpAny (model X.prog X.w) A (pyNext (.ref a)) Q E s := by
  obtain ⟨gs, ys, ssl, Sz, hys, hgs, hsus, hao, ez, own, rsm⟩ := Z
  have htot : ∃ m, outs.length + done.n - i = m + 1 := by
    rcases hi with h | ⟨h, h2⟩
    · exact ⟨outs.length + done.n - i - 1, by omega⟩
    · have h1 : done.n = 1 := by
        cases done with
        | no => exact absurd rfl h
        | yes => rfl
        | ex x => rfl
      exact ⟨0, by omega⟩
  obtain ⟨m, hm⟩ := htot
  have rsm : Rsm (fmX X A.in1 N qual scope f cd a go L (done.E X.K outs.length)) (Br X.K outs done) (outs.length + done.n - i) gs ys ip Sz ssl := rsm
  rw [hm] at rsm
  have bare' : ∀ x : GenState, x.bare = true → AllBare (s.setGen g x).gens := fun x hx => allBare_setGen I.bare hx
  have go1 := rsm (s.setGen g .running) S H ez hSH ⟨⟨hfr, I.ok.mod, I.bs, Nat.le_trans I.ok.bsz I.sz, I.stack, I.stkFree, I.hok, bare' _ rfl⟩, fun b o h1 h2 h3 => ?_⟩
  · have hgl : g < s.gens.size := (Array.getElem?_eq_some_iff.mp hgs).1
    refine wpAny_gsz (n := g + 1) hgl (next_g hA I.nolimit hd (hg _ hao) hgs go1 (fun v s1 gs' hsu hba hY1 hsz => ?_) fun r s1 hR => ?_)
    · obtain ⟨x, ip2, σ2, S2, H2, rv, J, ⟨gr, d, hdd, rp⟩, ex2, rsm2⟩ := hY1
      have b1 : AllBare s1.gens := J.2.2.bare
      have exH : Ex H H2 := fun b o e => gr.h b o e (by simp)
      have I2 : Inv X pins σ H2 (s1.setGen g gs') := inv_back I old J rfl rfl exH rfl (fun _ _ e => e) (allBare_setGen b1 hba)
      rw [hys] at hdd
      have hm2 : outs.length + done.n - (i + 1) = m := by omega
      have hsz1 : g < s1.gens.size := by
        have q : (s1.setGen g gs').gens.size = s1.gens.size := setGen_size _ _ _
        have hsz' : g + 1 ≤ (s1.setGen g gs').gens.size := hsz
        omega
      refine hY v x d _ S2 H2 ip2 rv hdd rp gr I2 ⟨gs', ys ++ [x], s1, S2, by simp [hys], setGen_at hsz1, .inr hsu, (J.2.2.pin (a, go) (List.mem_append_left _ (List.mem_singleton.mpr rfl))).1, .refl _, fun b hb => ?_, ?_⟩
      · obtain ⟨hl, hp, J⟩ := J
        have e1 : ((fmX X A.in1 N qual scope f cd a go L (done.E X.K outs.length)).X (s.setGen g .running) H).env = (fmX X A.in1 N qual scope f cd a go L (done.E X.K outs.length)).e0 := Fm.env hl
        rcases hb with rfl | ⟨y, hb⟩ | ⟨p, hp1, rfl⟩
        · obtain ⟨_, ⟨o, _, _, ho, _⟩, _⟩ := J.loc
          rw [e1] at ho
          have h2 := J.free
          rw [e1] at h2
          exact ⟨Nat.le_refl _, o, ho, ho, h2⟩
        · obtain ⟨v', o, ho, _⟩ := J.cell y b (by rw [e1]; exact hb)
          have h2 := J.freeC y b (by rw [e1]; exact hb)
          have h3 := J.ok.cab y b rfl (by rw [e1]; exact hb)
          have h4 : ((fmX X A.in1 N qual scope f cd a go L (done.E X.K outs.length)).X (s.setGen g .running) H).s_0.heap.objs.size = L := cut_size hl
          rw [h4] at h3
          exact ⟨h3, o, ho, ho, h2⟩
        · obtain ⟨h1, h2, _⟩ := J.pin p hp1
          exact ⟨hp p hp1, p.2, h1, h1, h2⟩
      · show Rsm _ _ (outs.length + done.n - (i + 1)) _ _ _ _ _
        rw [hm2]
        exact rsm2
    · rcases hR with ⟨hok, ip', σ', H', J, hd1, hl1, S2, gr⟩ | ⟨e, rfl, cx, hpn⟩
      · refine .inl ⟨hok, fun h' hk _ => ?_⟩
        have b1 : AllBare s1.gens := J.2.2.bare
        exact hE hd1 (hys.symm.trans hl1) _ S2 H' gr (inv_back I old J rfl rfl (fun b o e => gr.h b o e (by simp)) rfl hk (allBare_setGen b1 rfl))
      · obtain ⟨a', B', H', cls', d', hu, fl, hok', ub, na, os', ag, hW⟩ := cx
        cases done with
        | no => exact False.elim hW
        | yes => exact False.elim hW
        | ex x =>
          obtain ⟨hi2, hW⟩ := hW
          obtain ⟨q1, q2⟩ := hX x rfl (hys.symm.trans hi2) e s1 ⟨a', B', H', cls', d', hu, fl, hok', ub, na, os', ag, hW⟩
          exact .inr ⟨e, rfl, hg _ (hpn (a, go) (List.mem_singleton.mpr rfl)), q1, fun _ => q2⟩
  · obtain ⟨_, o', e1, e2, e3⟩ := own b h2
    rw [e1] at h3
    cases h3
    exact ⟨e2, e3⟩
/-- a piece of the generator's run, in the caller's data -/
theorem Rel.ran {K : PySem.W.Frag} (R : Rel K fr ρ σ S H ad) (g : Grow [] S H S2 H2) : Rel K fr ρ σ S2 H2 ad := by
  have hst : Step S ad S2 ad := ⟨g.s, [], by simp⟩
  have exH : Ex H H2 := fun b o e => g.h b o e (by simp)
  refine ⟨⟨R.grow.s.trans g.s, g.sh, fun a o e hm => exH _ _ (R.grow.h a o e hm), fun a h1 h2 h3 => g.n a (R.grow.n a h1 h2 h3) (R.old h2) fun xs => R.ntup h2 h3 xs⟩, fun i x e => ?_, fun n o e => ?_, R.mm, R.nd, R.len, R.al, R.ml, fun l hl => ?_⟩
  · obtain ⟨v, e1, e2⟩ := R.slots i x e
    exact ⟨v, e1, e2.mono hst⟩
  · obtain ⟨l, ho, e1, e2, e3, e4, e5⟩ := R.own n o e
    refine ⟨l, ho, e1, g.n l e2 (by rw [e3]; simp) (fun xs z => ?_), exH _ _ e3, e4.mono hst, e5⟩
    rw [e3] at z
    cases z
    exact e4.ntup
  · cases q : H l with
    | none => exact absurd q (R.lv l hl)
    | some u => rw [exH _ _ q]; simp
/-- an own object of ours that is no lent one -/
def Mine (ρ : DEnv) (ad : List Addr) (b : Addr) : Prop := ∃ n o, ρ.m ≤ n ∧ ρ.ow[n]? = some (some o) ∧ ad[n]? = some b
open Classical in
/-- the entry of the caller's piece, while the generator's own things are held -/
noncomputable def frO (fr : DL.Fr) (ρ : DEnv) (ad : List Addr) (Pb : Addr → Prop) (h : Heap) (S H : Hp) : DL.Fr := ⟨fr.M, S, fun b => if Mine ρ ad b then none else addO Pb h H b⟩
section
variable {K : PySem.W.Frag} {Pb : Addr → Prop} {h : Heap}
open Classical in
theorem Rel.hold (R : Rel K fr ρ σ S H ad) (hn : ∀ b, Pb b → H b = none) : Rel K (frO fr ρ ad Pb h S H) ρ σ S (addO Pb h H) ad := by
  have up : ∀ b u, H b = some u → addO Pb h H b = some u := fun b u e => (addO_of hn e).2
  refine ⟨⟨.refl _, fun a u e => up _ _ (R.grow.sh a u e), fun a o e _ => ?_, fun a e _ _ => e⟩, R.slots, fun n o e => ?_, R.mm, R.nd, R.len, R.al, R.ml, fun l hl => ?_⟩
  · have e : (if Mine ρ ad a then none else addO Pb h H a) = some o := e
    split at e
    · cases e
    · exact e
  · obtain ⟨l, ho, e1, e2, e3, e4, e5⟩ := R.own n o e
    refine ⟨l, ho, e1, e2, up _ _ e3, e4, fun hm => ?_⟩
    show (if Mine ρ ad l then none else addO Pb h H l) = none
    rw [if_pos ⟨n, o, hm, e, e1⟩]
  · cases q : H l with
    | none => exact absurd q (R.lv l hl)
    | some u => rw [up _ _ q]; simp
/-- every object of ours is alive -/
def Alive (ρ : DEnv) : Prop := ∀ n, n < ρ.ow.length → ∃ o, ρ.ow[n]? = some (some o)
theorem OR.next {S : Hp} {ad : List Addr} {l : Addr} {φ : Heap → Prop} {o : OD} (h : OR K S ad l (.ext φ) o) : False := by cases o <;> exact h.elim
open Classical in
theorem Rel.unhold {σ2 : L2.St} (R : Rel K fr ρ σ S H ad) (hn : ∀ b, Pb b → H b = none) (hx : ∀ b, Pb b → ∃ o, h.get? b = some o) (R2 : Rel K (frO fr ρ ad Pb h S H) ρ2 σ2 S2 H2 ad2) (al : Alive ρ2) :
    Rel K fr ρ2 σ2 S2 (dropO Pb H2) ad2 ∧ Ex S S2 ∧ ∀ b, Pb b → ∀ o, h.get? b = some o → H2 b = some (.ext fun h' => h'.get? b = some o) := by
  have keep : ∀ b u, addO Pb h H b = some u → ¬ Mine ρ ad b → b ∉ fr.M → H2 b = some u := fun b u e h1 h2 => R2.grow.h b u (by show (if Mine ρ ad b then none else addO Pb h H b) = some u; rw [if_neg h1]; exact e) h2
  have mineH : ∀ b, Mine ρ ad b → fr.H b = none ∧ H b ≠ none := fun b ⟨n, o, hm, e, e1⟩ => by
    obtain ⟨l, ho, f1, f2, f3, f4, f5⟩ := R.own n o e
    rw [e1] at f1; cases f1
    exact ⟨f5 hm, by rw [f3]; simp⟩
  have pbH : ∀ b, Pb b → ∀ o, h.get? b = some o → H2 b = some (.ext fun h' => h'.get? b = some o) := fun b hb o e => by
    refine keep b _ (addO_in hb e) (fun z => (mineH b z).2 (hn b hb)) fun z => ?_
    obtain ⟨_, _, _, _, _, _, _, e3⟩ := R.atM z
    rw [hn b hb] at e3; cases e3
  have pbS : ∀ b, Pb b → S2 b = none := fun b hb => by
    obtain ⟨o, e⟩ := hx b hb
    have e1 : (frO fr ρ ad Pb h S H).H b = some (.ext fun h' => h'.get? b = some o) := by
      show (if Mine ρ ad b then none else addO Pb h H b) = _
      rw [if_neg fun z => (mineH b z).2 (hn b hb)]
      exact addO_in hb e
    exact R2.grow.n b (R.grow.sh.back (hn b hb)) (by rw [e1]; simp) fun xs z => by rw [e1] at z; cases z
  have notPb : ∀ (n : Nat) (o : OD) (l : Addr) (ho : HO), ρ2.ow[n]? = some (some o) → ad2[n]? = some l → H2 l = some ho → OR K S2 ad2 l ho o → ¬ Pb l := fun n o l ho e e1 e3 e4 z => by
    obtain ⟨o', q⟩ := hx l z
    rw [pbH l z o' q] at e3
    cases e3
    exact OR.next e4
  have eS : (frO fr ρ ad Pb h S H).S = S := rfl
  have exS : Ex S S2 := R2.grow.s
  refine ⟨⟨⟨R.grow.s.trans exS, fun a u e => ?_, fun a o e hm => ?_, fun a h1 h2 h3 => ?_⟩, R2.slots, fun n o e => ?_, R2.mm, R2.nd, R2.len, R2.al, R2.ml, fun l hl => ?_⟩, exS, pbH⟩
  · have : ¬ Pb a := fun z => by rw [pbS a z] at e; cases e
    rw [dropO_out this]; exact R2.grow.sh a u e
  · have e1 := R.grow.h a o e hm
    obtain ⟨n1, e2⟩ := addO_of (h := h) hn e1
    rw [dropO_out n1]
    exact keep a o e2 (fun z => by rw [(mineH a z).1] at e; cases e) hm
  · have n1 : ¬ Mine ρ ad a := fun z => h2 (mineH a z).1
    have n2 : ¬ Pb a := fun z => R.old h2 (hn a z)
    have e1 : (frO fr ρ ad Pb h S H).H a = H a := by
      show (if Mine ρ ad a then none else addO Pb h H a) = _
      rw [if_neg n1, addO_out n2]
    exact R2.grow.n a (R.grow.n a h1 h2 h3) (by rw [e1]; exact R.old h2) fun xs z => R.ntup h2 h3 xs (e1 ▸ z)
  · obtain ⟨l, ho, e1, e2, e3, e4, e5⟩ := R2.own n o e
    have n2 := notPb n o l ho e e1 e3 e4
    refine ⟨l, ho, e1, e2, by rw [dropO_out n2]; exact e3, e4, fun hm => ?_⟩
    have e6 : (if Mine ρ ad l then none else addO Pb h H l) = none := e5 hm
    by_cases z : Mine ρ ad l
    · exact (mineH l z).1
    · rw [if_neg z, addO_out n2] at e6
      cases q : fr.H l with
      | none => rfl
      | some u => exact absurd e6 (R.old (by rw [q]; simp))
  · obtain ⟨n, hn2⟩ := List.getElem?_of_mem hl
    have hlt := (List.getElem?_eq_some_iff.mp hn2).1
    rw [R2.al] at hlt
    obtain ⟨o, e⟩ := al n hlt
    obtain ⟨l', ho, e1, e2, e3, e4, e5⟩ := R2.own n o e
    rw [hn2] at e1; cases e1
    rw [dropO_out (notPb n o l ho e hn2 e3 e4), e3]; simp
end
end
end GX

/-! ### for x in g(..): body -/
namespace GX
open PySem PySem.Spec PyProof.Rows L2 GenW
open DL (Ex Rel Rp RpAll Rv RvAll D VD OD OR KnOk Kn SD SDs ED AD TD GD ItD tS tE tA tT tG tI Grow Step env0 AllD)
section
variable {X : Cx} {pins : List (Addr × Obj)} {σ : L2.St} {H H1 H2 S S1 S2 S' H' : Hp} {s s0 s1 s2 s3 s' : Shared} {fr : DL.Fr} {ad ad1 ad2 : List Addr} {ρ ρ1 ρ2 : DEnv} {outs ds : List D} {done : Dn} {E : Value → Shared → Prop} {A : Around} {N : List Str} {qual : Str} {scope : Scope} {f a : Addr} {cd : Value} {go : Obj} {L g i : Nat} {ip : List (Addr × Obj)} {Φ : Fm}
theorem inv_addO {Pb : Addr → Prop} (I : Inv X pins σ H s) (old : Old X pins L) (hn : ∀ b, Pb b → H b = none) (hL : ∀ b, Pb b → L ≤ b) : Inv X pins σ (addO Pb s.heap H) s := by
  have keep : ∀ b u, H b = some u → addO Pb s.heap H b = some u := fun b u e => (addO_of hn e).2
  refine I.call' (ch := List.range' L (s.heap.objs.size - L)) rfl ⟨fun b o e _ _ _ => e, fun b o e _ _ _ => ⟨_, e⟩, fun b o e n hc => ?_, fun b o e _ => ⟨_, e⟩, fun b xs e => keep b _ e, fun b o u e => keep b _ e, fun b ps e => ⟨#[], by rw [keep b _ e]; simp⟩⟩ (hok_addO I.hok hn) I.bare fun b hb => ?_
  · have : ¬ Pb b := fun z => by
      have h1 := Heap.lt_size e
      have h2 := hL b z
      have h3 : L + (s.heap.objs.size - L) = s.heap.objs.size := Nat.add_sub_cancel' (Nat.le_trans h2 (Nat.le_of_lt h1))
      exact hc (List.mem_range'_1.mpr ⟨h2, by rw [h3]; exact h1⟩)
    exact (addO_out this).trans n
  · have hL := (List.mem_range'_1.mp hb).1
    exact ⟨.inr (Nat.le_trans old.s0 hL), Nat.ne_of_gt (Nat.lt_of_lt_of_le old.loc hL), fun x c e => Nat.ne_of_lt (Nat.lt_of_lt_of_le (old.cells x c e) hL), fun p hp => Nat.ne_of_lt (Nat.lt_of_lt_of_le (old.pins p hp) hL)⟩
/-- its own things were held: it sleeps on -/
theorem Slp.kept {P : Program} {w : World} (hpn : Φ.pn = [(a, go)]) (Z : Slp Φ a g go outs done i ip S H s) (hi : 0 < i) (asl : Asleep s.gens s'.gens) (e : Ex S S') (hok : HOk P w H' s'.heap) (pb : ∀ b, Φ.Own ip b → ∀ o, s.heap.get? b = some o → H' b = some (.ext fun h' => h'.get? b = some o)) :
    Slp Φ a g go outs done i ip S' (dropO (Φ.Own ip) H') s' := by
  obtain ⟨gs, ys, ssl, Sz, hys, hgs, hsus, hao, ez, own, rsm⟩ := Z
  have hs : isSusp gs = true := by
    rcases hsus with z | z
    · omega
    · exact z
  have at_ : ∀ b, Φ.Own ip b → ∀ o, s.heap.get? b = some o → s'.heap.get? b = some o := fun b hb o q => by
    have := hok b _ (pb b hb o q)
    exact this.1
  refine ⟨gs, ys, ssl, Sz, hys, asl g gs hgs hs, hsus, at_ a (.inr (.inr ⟨(a, go), by rw [hpn]; simp, rfl⟩)) go hao, ez.trans e, fun b hb => ?_, rsm⟩
  obtain ⟨h1, o, e1, e2, e3⟩ := own b hb
  exact ⟨h1, o, e1, at_ b hb o e2, dropO_in hb⟩
/-- a new generator has not begun -/
theorem slp_new {k : Nat} {u : Value} (I : Inv X pins σ H s) (hr : Room (k + 4) X.A) (h : GMk X.prog X.w X.K X.mg X.base k X.stack S s.heap.objs.size outs done u s') (hgen : ∀ A : Around, Room k A → A.frames = some X.stack → True) :
    ∃ a g go N qual scope f cd, u = .ref a ∧ (∀ h : Heap, h.get? a = some go → h.IsGen a g) ∧ s'.heap.IsGen a g ∧ ∀ A : Around, Room k A → A.frames = some X.stack → Slp (fmX X A N qual scope f cd a go s.heap.objs.size (done.E X.K outs.length)) a g go outs done 0 [] S H s' := by
  obtain ⟨a, g, body, N, qual, scope, f, cd, go, e, hLa, hao, hg, hgs, ⟨oL, hoL⟩, hcell, rsm⟩ := h
  refine ⟨a, g, go, N, qual, scope, f, cd, e, hg, hg _ hao, fun A hA hfr => ⟨_, [], s', S, rfl, hgs, .inl rfl, hao, .refl _, fun b hb => ?_, rsm A hA hfr⟩⟩
  have fresh : ∀ b, s.heap.objs.size ≤ b → H b = none := fun b hb => I.hok.fresh hb
  rcases hb with rfl | ⟨y, hb⟩ | ⟨p, hp1, rfl⟩
  · exact ⟨Nat.le_refl _, oL, hoL, hoL, fresh _ (Nat.le_refl _)⟩
  · obtain ⟨h1, o, h2⟩ := hcell y b hb
    exact ⟨h1, o, h2, h2, fresh _ h1⟩
  · have e2 : p = (a, go) := by simpa using hp1
    rw [e2]
    exact ⟨Nat.le_of_lt hLa, go, hao, hao, fresh _ (Nat.le_of_lt hLa)⟩
variable {tg iter : Expr} {body r : List Stmt} {k : Kn} {pos : Pos}
/-- every object of ours is alive -/
def AliveO (ow : List (Option OD)) : Prop := ∀ n, n < ow.length → ∃ o, ow[n]? = some (some o)
theorem sds_forG {vs : List Nat} (hge : GE X ρ iter outs done ρ1) (hx0 : ∀ e s, X.xe e s → False) (hc : X.calm = true) (W : Nat → DEnv → Prop) (h0 : W 0 ρ1)
    (hs : ∀ i d ρ, outs[i]? = some d → W i ρ → ∃ ρ', GD X vs ρ tg (.d d) ρ' ∧ SDs X ρ' body { nx := fun ρ' => AliveO ρ'.ow ∧ W (i + 1) ρ', ct := fun ρ' => AliveO ρ'.ow ∧ W (i + 1) ρ', bk := fun ρ' => AliveO ρ'.ow ∧ SDs X ρ' r k, rt := fun d ow => AliveO ow ∧ k.rt d ow })
    (hd : ∀ ρ, W outs.length ρ → done = .yes ∧ SDs X ρ r k) (hfs : ∀ x, foldedSetIterable iter X.env x = pure x := by intro _; rfl) : SDs X ρ (.For tg iter body [] pos :: r) k := by
  refine DL.sds_cons ⟨fun pins s σ H Dn I ⟨fr, S, ad, R, kk⟩ => ?_⟩
  refine wpAny_For (thn (hge pins s σ H fr S ad I R) fun u s1 h1 => ?_) hfs
  obtain ⟨S1, H1, ad1, sc, kr, Ic, st1, R1, os1, b1, kp1, room, mk⟩ := h1
  have I1 : Inv X pins σ H1 s1 := Ic.call' (ch := []) os1 (Un.kept kp1) (Ic.hok.kept kp1) b1 fun b z => by simp at z
  obtain ⟨a, g, go, N, qual, scope, f, cd, rfl, hgen, hg1, slp⟩ := slp_new Ic room mk fun _ _ _ => trivial
  have hfr : X.A.frames = some X.stack := I.ok.frames
  have rin : Room kr X.A.in1 := (room.mono (by omega : kr + 1 ≤ kr + 4)).in1
  have Z0 := slp X.A.in1 rin hfr
  have old : Old X pins sc.heap.objs.size := old_of Ic
  obtain ⟨go', nm, qn, hgo, gcl, gdt, _⟩ := id hg1
  refine wpAny_pyIter_gen hg1 ?_
  refine codeAny_forLoop_any (fun n s' => ∃ (i : Nat) (σ' : L2.St) (S' H' : Hp) (ad' : List Addr) (ρ' : DEnv) (ip : List (Addr × Obj)), n = outs.length + 1 - i ∧ i ≤ outs.length ∧ W i ρ' ∧ Inv X pins σ' H' s' ∧ Rel X.K fr ρ' σ' S' H' ad' ∧
    Slp (fmX X X.A.in1 N qual scope f cd a go sc.heap.objs.size (done.E X.K outs.length)) a g go outs done i ip S' H' s') ?_ (outs.length + 1) ⟨0, σ, S1, H1, ad1, ρ1, [], rfl, Nat.zero_le _, h0, I1, R1, Z0⟩
  rintro n s2 ⟨i, σ2, S2, H2, ad2, ρ2, ip, rfl, hle, hW, I2, R2, Z2⟩
  have hi : i < outs.length ∨ (done ≠ .no ∧ i = outs.length) := by
    rcases Nat.lt_or_ge i outs.length with z | z
    · exact .inl z
    · have e : i = outs.length := by omega
      exact .inr ⟨by rw [(hd ρ2 (e ▸ hW)).1]; exact fun z => (nomatch z), e⟩
  refine Slp.next (I.ok.hd hc) (by have := room.dp; omega) hfr hgen I2 R2.grow.sh old Z2 hi (fun v x d s3 S3 H3 ip3 rv hdd rp gr I3 Z3 => ?_) (fun hdn hil s3 S3 H3 gr I3 => ?_) fun x hdn hil => absurd ((hd ρ2 (hil ▸ hW)).1.symm.trans hdn) (fun z => nomatch z)
  · have R3 := Rel.ran R2 gr
    obtain ⟨ρ', hgd, hbd⟩ := hs i d ρ2 hdd hW
    have Z3' := Z3
    obtain ⟨gs, ys, ssl, Sz, hys, hgs, hsus, hao, ez, own, rsm⟩ := Z3'
    have hn : ∀ b, (fmX X X.A.in1 N qual scope f cd a go sc.heap.objs.size (done.E X.K outs.length)).Own ip3 b → H3 b = none := fun b hb => (own b hb).2.choose_spec.2.2
    have hx : ∀ b, (fmX X X.A.in1 N qual scope f cd a go sc.heap.objs.size (done.E X.K outs.length)).Own ip3 b → ∃ o, s3.heap.get? b = some o := fun b hb => ⟨_, (own b hb).2.choose_spec.2.1⟩
    have R4 := Rel.hold (h := s3.heap) R3 hn
    have I4 := inv_addO I3 old hn fun b hb => (own b hb).1
    obtain ⟨go2, _, _, hgo2, gcl2, gdt2, _⟩ := hgen _ hao
    refine go_of hgo2 gcl2 gdt2 (by decide) ?_
    refine wpAny_mono (wpAny_asleep I4.bare fun G hG => hgd.run pins (Sw s3 G) σ2 _ x v (fun σ' H' => ∃ S' ad', Rel X.K (frO fr ρ2 ad2 _ s3.heap S3 H3) ρ' σ' S' H' ad') (inv_gens I4 hG) rv ⟨_, _, _, R4, .d rp, fun σ' S' H' ad' _ R' _ _ => ⟨S', ad', R'⟩⟩) (fun _ s4 h4 => ?_) fun e s4 ⟨_, z, _⟩ => (hx0 _ _ z).elim
    obtain ⟨G, ⟨σ4, H4, I5, S4, ad4, R5⟩, hbG, asl1⟩ := h4
    have I5a : Inv X pins σ4 H4 { Sw s4 G with gens := s4.gens } := inv_gens I5 (hbG I5.bare)
    have I5' : Inv X pins σ4 H4 s4 := I5a
    let F := frO fr ρ2 ad2 ((fmX X X.A.in1 N qual scope f cd a go sc.heap.objs.size (done.E X.K outs.length)).Own ip3) s3.heap S3 H3
    let Dn' : Ends := { nx := (fun σ H => ∃ ρ S ad, (AliveO ρ.ow ∧ W (i + 1) ρ) ∧ Rel X.K F ρ σ S H ad), ct := (fun σ H => ∃ ρ S ad, (AliveO ρ.ow ∧ W (i + 1) ρ) ∧ Rel X.K F ρ σ S H ad), bk := (fun σ H => ∃ ρ S ad, (AliveO ρ.ow ∧ SDs X ρ r k) ∧ Rel X.K F ρ σ S H ad), rt := (fun v H => ∃ d ρ σ S ad, (AliveO ρ.ow ∧ k.rt d ρ.ow) ∧ Rel X.K F ρ σ S H ad ∧ Rp X.K S v d) }
    refine wpAny_mono (wpAny_asleep I5'.bare fun G hG => hbd.run pins (Sw s4 G) σ4 H4 Dn' (inv_gens I5' hG)
        ⟨_, S4, ad4, R5, fun ρ σ S H ad hk R => ⟨ρ, S, ad, hk, R⟩, fun d ρ σ S H ad v hk R rp => ⟨d, ρ, σ, S, ad, hk, R, rp⟩, fun ρ σ S H ad hk R => ⟨ρ, S, ad, hk, R⟩, fun ρ σ S H ad hk R => ⟨ρ, S, ad, hk, R⟩, fun _ _ _ _ _ _ _ z => z.elim⟩) (fun fl s6 h6 => ?_) fun e s6 ⟨_, z, _⟩ => (hx0 _ _ z).elim
    obtain ⟨G6, sp, hbG6, asl2⟩ := h6
    have asl : Asleep s3.gens s6.gens := fun j y e hsu => asl2 j y (asl1 j y e hsu) hsu
    -- the generator's own things are let go
    have back : ∀ {ρ6 : DEnv} {σ6 σ6' : L2.St} {S6 H6 : Hp} {ad6 : List Addr}, Inv X pins σ6 H6 (Sw s6 G6) → AliveO ρ6.ow → Rel X.K F ρ6 σ6' S6 H6 ad6 →
        ∃ H7, Inv X pins σ6 H7 s6 ∧ Rel X.K fr ρ6 σ6' S6 H7 ad6 ∧ S6 = S6 ∧ Slp (fmX X X.A.in1 N qual scope f cd a go sc.heap.objs.size (done.E X.K outs.length)) a g go outs done (i + 1) ip3 S6 H7 s6 := fun {ρ6 σ6 σ6' S6 H6 ad6} I6 al R6 => by
      have I6a : Inv X pins σ6 H6 { Sw s6 G6 with gens := s6.gens } := inv_gens I6 (hbG6 I6.bare)
      have I6' : Inv X pins σ6 H6 s6 := I6a
      obtain ⟨R7, e7, pb⟩ := Rel.unhold R3 hn hx R6 al
      refine ⟨_, inv_dropO I6' fun b u hb e => ?_, R7, rfl, Slp.kept rfl Z3 (Nat.succ_pos _) asl e7 I6'.hok pb⟩
      obtain ⟨o, q⟩ := hx b hb
      rw [pb b hb o q] at e
      cases e
      exact ⟨_, rfl⟩
    have again : (∃ σ6 H6, Inv X pins σ6 H6 (Sw s6 G6) ∧ ∃ ρ S ad, (AliveO ρ.ow ∧ W (i + 1) ρ) ∧ Rel X.K F ρ σ6 S H6 ad) → ∃ m, m < outs.length + 1 - i ∧ ∃ (i : Nat) (σ' : L2.St) (S' H' : Hp) (ad' : List Addr) (ρ' : DEnv) (ip : List (Addr × Obj)), m = outs.length + 1 - i ∧ i ≤ outs.length ∧ W i ρ' ∧ Inv X pins σ' H' s6 ∧ Rel X.K fr ρ' σ' S' H' ad' ∧
        Slp (fmX X X.A.in1 N qual scope f cd a go sc.heap.objs.size (done.E X.K outs.length)) a g go outs done i ip S' H' s6 := fun ⟨σ6, H6, I6, ρ6, S6, ad6, ⟨al, w6⟩, R6⟩ => by
      obtain ⟨H7, I7, R7, _, Z7⟩ := back I6 al R6
      have hlt : i < outs.length := (List.getElem?_eq_some_iff.mp hdd).1
      exact ⟨outs.length + 1 - (i + 1), by omega, i + 1, σ6, S6, H7, ad6, ρ6, ip3, rfl, hlt, w6, I7, R7, Z7⟩
    cases fl with
    | next => obtain ⟨σ6, H6, I6, q⟩ := sp; exact again ⟨σ6, H6, I6, q⟩
    | cont => obtain ⟨σ6, H6, I6, q⟩ := sp; exact again ⟨σ6, H6, I6, q⟩
    | brk =>
      obtain ⟨σ6, H6, I6, ρ6, S6, ad6, ⟨al, w6⟩, R6⟩ := sp
      obtain ⟨H7, I7, R7, _, Z7⟩ := back I6 al R6
      exact ⟨σ6, H7, I7, kk.nx ρ6 σ6 S6 H7 ad6 w6 R7⟩
    | ret u =>
      obtain ⟨v6, σ6, H6, I6, rv6, d6, ρ6, σ6', S6, ad6, ⟨al, w6⟩, R6, rp6⟩ := sp
      obtain ⟨H7, I7, R7, _, Z7⟩ := back I6 al R6
      exact ⟨v6, σ6, H7, I7, rv6, kk.rt d6 ρ6 σ6' S6 H7 ad6 v6 w6 R7 rp6⟩
  · subst hil
    exact wpAny_execs_nil ⟨σ2, H3, I3, kk.nx ρ2 σ2 S3 H3 ad2 (hd ρ2 hW).2 (Rel.ran R2 gr)⟩
end
end GX

/-! ### list(g(..)): such a generator is one of the kit's kind, too -/
namespace GX
open PySem PySem.Spec PyProof.Rows L2 GenW
open DL (Ex Rel Rp RpAll Rv RvAll D VD OD OR KnOk Kn SD SDs ED AD TD GD ItD tS tE tA tT tG tI Grow Step env0 AllD)
theorem grow_trans {S1 H1 S H S2 H2 : Hp} (a : Grow [] S1 H1 S H) (b : Grow [] S H S2 H2) : Grow [] S1 H1 S2 H2 :=
  ⟨a.s.trans b.s, b.sh, fun x o e hm => b.h x o (a.h x o e hm) hm, fun x h1 h2 h3 => by
    have key : H x = H1 x := by
      cases q : H1 x with
      | none => exact absurd q h2
      | some u => exact a.h x u q (by simp)
    exact b.n x (a.n x h1 h2 h3) (by rw [key]; exact h2) fun xs z => h3 xs (key ▸ z)⟩
/-- the new list, while it is filled -/
def fillO (Sx : Addr) (acc : Array Value) (c : Nat) : HO := .ext fun h => h.get? Sx = some (lstObj acc c)
def isS (Sx b : Addr) : Prop := b = Sx
/-- what list(g) is to have: all of outs -/
def ListQ (K : PySem.W.Frag) (S1 H1 : Hp) (outs : List D) (ys : List V) (H' : Hp) : Prop := ∃ S', Grow [] S1 H1 S' H' ∧ RpAll K S' ys outs
section
variable {X : Cx} {pins : List (Addr × Obj)} {σ : L2.St} {H H1 H2 S S1 S2 : Hp} {s s0 s1 sc : Shared} {fr : DL.Fr} {ad : List Addr} {ρ ρ1 : DEnv} {outs : List D} {A : Around} {N : List Str} {qual : Str} {scope : Scope} {f a Sx : Addr} {cd : Value} {go : Obj} {g : Nat}
/-- from sc, where the call began: what stood there is as a callee leaves it -/
theorem un_dropS (I : Inv X pins σ H s) (hn : H1 Sx = none) (u : Un (frs X.stack) [] H1 H sc.heap s.heap) : Un (frs X.stack) [] H1 (dropO (isS Sx) H) sc.heap s.heap := by
  have ne : ∀ b o, H1 b = some o → ¬ isS Sx b := fun b o e z => by rw [show b = Sx from z, hn] at e; cases e
  refine ⟨u.keep, u.slot, fun b o e n hx => ?_, u.there, fun b xs e => ?_, fun b o v e => ?_, fun b ps e => ?_⟩
  · by_cases z : isS Sx b
    · exact dropO_in z
    · exact (dropO_out z).trans (u.free b o e n hx)
  · exact (dropO_out (ne b _ e)).trans (u.tups b xs e)
  · exact (dropO_out (ne b _ e)).trans (u.frzs b o v e)
  · obtain ⟨more, q⟩ := u.tbls b ps e
    exact ⟨more, (dropO_out (ne b _ e)).trans q⟩
/-- the caller's heap behind a piece, seen from the call's begin -/
theorem un_piece {σ2 : L2.St} (hok1 : HOk X.prog X.w H1 sc.heap) (u : Un (frs X.stack) [] H1 H sc.heap s.heap) (J : (fmX X A N qual scope f cd a go sc.heap.objs.size (Dn.E X.K outs.length .yes)).I s H ip σ2 H2 s1) : Un (frs X.stack) [] H1 H2 sc.heap s1.heap := by
  have un : Un (frs X.stack) [] (cutH sc.heap.objs.size H) H2 (cut sc.heap.objs.size s.heap) s1.heap := J.2.2.base
  have lo : ∀ b o, sc.heap.get? b = some o → b < sc.heap.objs.size := fun b o e => Heap.lt_size e
  have loH : ∀ b o, H1 b = some o → b < sc.heap.objs.size := fun b o e => hok1.lt e
  have cg : ∀ b o, b < sc.heap.objs.size → s.heap.get? b = some o → (cut sc.heap.objs.size s.heap).get? b = some o := fun b o h e => (cut_get h).trans e
  refine ⟨fun b o e n hb hx => ?_, fun b o e n hb hx => ?_, fun b o e n hx => ?_, fun b o e hx => ?_, fun b xs e => ?_, fun b o v e => ?_, fun b ps e => ?_⟩
  · exact un.keep b o (cg b o (lo b o e) (u.keep b o e n hb hx)) ((cutH_lt (lo b o e)).trans (u.free b o e n hx)) hb hx
  · obtain ⟨sl, q⟩ := u.slot b o e n hb hx
    obtain ⟨sl2, q2⟩ := un.slot b _ (cg b _ (lo b o e) q) ((cutH_lt (lo b o e)).trans (u.free b o e n hx)) hb hx
    exact ⟨sl2, q2⟩
  · obtain ⟨o', q⟩ := u.there b o e hx
    exact un.free b o' (cg b _ (lo b o e) q) ((cutH_lt (lo b o e)).trans (u.free b o e n hx)) hx
  · obtain ⟨o', q⟩ := u.there b o e hx
    exact un.there b o' (cg b _ (lo b o e) q) hx
  · exact un.tups b xs ((cutH_lt (loH b _ e)).trans (u.tups b xs e))
  · exact un.frzs b o v ((cutH_lt (loH b _ e)).trans (u.frzs b o v e))
  · obtain ⟨m1, q⟩ := u.tbls b ps e
    obtain ⟨m2, q2⟩ := un.tbls b _ ((cutH_lt (loH b _ e)).trans q)
    exact ⟨m1 ++ m2, by rw [q2, Array.append_assoc]⟩
theorem goes_kit (hfr : A.frames = some X.stack) (hg : ∀ h : Heap, h.get? a = some go → h.IsGen a g) (Ic : Inv X pins σ H1 sc) (hz : outs.length ≤ sizeLine) (hn : H1 Sx = none) :
    ∀ (n : Nat) (gs : GenState) (i : Nat) (ys zs : List V) (ip : List (Addr × Obj)) (S H Sz : Hp) (s ssl : Shared) (acc : Array Value) (c : Nat), n + i = sizeLine → i ≤ outs.length → ys.length = i → Inv X pins σ H s → Un (frs X.stack) [] H1 H sc.heap s.heap → H Sx = some (fillO Sx acc c) →
      Grow [] S1 H1 S H → S Sx = none → Vals zs acc.toList → RpAll X.K S zs (outs.take i) → Ex Sz S →
      (∀ b, (fmX X A N qual scope f cd a go sc.heap.objs.size (Dn.E X.K outs.length .yes)).Own ip b → ∃ o, ssl.heap.get? b = some o ∧ s.heap.get? b = some o ∧ H b = none) →
      Rsm (fmX X A N qual scope f cd a go sc.heap.objs.size (Dn.E X.K outs.length .yes)) (Br X.K outs .yes) (outs.length + 1 - i) gs ys ip Sz ssl →
      gs.Goes (model X.prog X.w) A (REnd X.prog X.w X.stack H1 sc [] Sx a g (ListQ X.K S1 H1 outs) fun _ _ _ => False) (YItem sc Sx a g) n (.send .none) s := by
  intro n
  induction n using Nat.strongRecOn with
  | ind n ih =>
  intro gs i ys zs ip S H Sz s ssl acc c hni hi hys I u hSx gr hSn rv rp ez own rsm
  obtain ⟨m, hm⟩ : ∃ m, outs.length + 1 - i = m + 1 := ⟨outs.length - i, by omega⟩
  rw [hm] at rsm
  have old : Old X pins sc.heap.objs.size := old_of Ic
  have go1 := rsm s S H ez gr.sh ⟨⟨hfr, I.ok.mod, I.bs, Nat.le_trans I.ok.bsz I.sz, I.stack, I.stkFree, I.hok, I.bare⟩, fun b o h1 h2 h3 => by
    obtain ⟨o', e1, e2, e3⟩ := own b h2
    rw [e1] at h3; cases h3
    exact ⟨e2, e3⟩⟩
  have hzs : zs.length = i := by
    have := rp.length
    rw [List.length_take] at this; omega
  have key : ∀ (c0 : Code) (t : Sem PySem.Fin) (fs : List Frame), GX.S1 (model X.prog X.w) A (RrP (fmX X A N qual scope f cd a go sc.heap.objs.size (Dn.E X.K outs.length .yes)) (Br X.K outs .yes) ys S H s) (fun v s2 gs2 => ∃ x ip2 σ2 S2 H2, RelV x v ∧ (fmX X A N qual scope f cd a go sc.heap.objs.size (Dn.E X.K outs.length .yes)).I s H ip2 σ2 H2 s2 ∧ (Br X.K outs .yes).yl S H ys x S2 H2 ∧ Ex S2 H2 ∧
      Rsm (fmX X A N qual scope f cd a go sc.heap.objs.size (Dn.E X.K outs.length .yes)) (Br X.K outs .yes) m gs2 (ys ++ [x]) ip2 S2 s2) c0 t fs s →
      Seg (model X.prog X.w) A (REnd X.prog X.w X.stack H1 sc [] Sx a g (ListQ X.K S1 H1 outs) fun _ _ _ => False) (YItem sc Sx a g) n s c0 t fs s := fun c0 t fs hS => by
    refine seg_iff.mpr fun Γ p hc hw => ?_
    obtain ⟨e, s1, hr, he⟩ := hS Γ p hc hw
    refine ⟨e, s1, hr, ?_⟩
    cases e with
    | ret r =>
      rcases he with ⟨hok, ip', σ', H', J, _, hl1, S2, g2⟩ | ⟨e, rfl, cx, _⟩
      · have e1 : i = outs.length := hys.symm.trans hl1
        have hS2 : H' Sx = some (fillO Sx acc c) := g2.h _ _ hSx (by simp)
        have I2 : Inv X pins σ H' s1 := inv_back I old J rfl rfl (fun b o e => g2.h b o e (by simp)) rfl (fun _ _ e => e) J.2.2.bare
        have nS : S2 Sx = none := g2.n Sx hSn (by rw [hSx]; simp) fun xs z => by rw [hSx] at z; cases z
        have g3 := grow_trans gr g2
        have I3 := inv_dropO (Pb := isS Sx) I2 fun b v hb e => by rw [show b = Sx from hb, hS2] at e; cases e; exact ⟨_, rfl⟩
        refine .inl ⟨hok, dropO (isS Sx) H', zs, acc, c, I2.os.trans Ic.os.symm, I2.bare, un_dropS I2 hn (un_piece Ic.hok u J), I3.hok, dropO_in (Pb := isS Sx) rfl, (I2.hok _ _ hS2).1, rv, by omega, S2, ⟨g3.s, fun b o e => ?_, fun b o e hm => ?_, g3.n⟩, ?_⟩
        · have : ¬ isS Sx b := fun z => by rw [show b = Sx from z, nS] at e; cases e
          rw [dropO_out this]; exact g3.sh b o e
        · have : ¬ isS Sx b := fun z => by rw [show b = Sx from z, hn] at e; cases e
          rw [dropO_out this]; exact g3.h b o e hm
        · have := rp.mono g2.s
          rw [e1, List.take_length] at this
          exact this
      · obtain ⟨_, _, _, _, _, _, _, _, _, _, _, _, hW⟩ := cx
        exact hW.elim
    | susp v g0 l k c' p' fs' =>
      obtain ⟨hq, x, ip2, σ2, S2, H2, rx, J, ⟨g2, d, hdd, rpd⟩, _, rsm2⟩ := he
      rw [hys] at hdd
      have hlt : i < outs.length := (List.getElem?_eq_some_iff.mp hdd).1
      have hS2 : H2 Sx = some (fillO Sx acc c) := g2.h _ _ hSx (by simp)
      have I2 : Inv X pins σ H2 s1 := inv_back I old J rfl rfl (fun b o e => g2.h b o e (by simp)) rfl (fun _ _ e => e) J.2.2.bare
      have nS : S2 Sx = none := g2.n Sx hSn (by rw [hSx]; simp) fun xs z => by rw [hSx] at z; cases z
      have hget : s1.heap.get? Sx = some (lstObj acc c) := (I2.hok Sx _ hS2).1
      have hsz : acc.size = i := by
        have e1 := rv.length
        have e3 : acc.toList.length = acc.size := by simp
        omega
      have hn1 : n - 1 + 1 = n := by omega
      refine ⟨hq, I2.os.trans Ic.os.symm, I2.bare, I2.nolimit, hg _ (J.2.2.pin (a, go) (List.mem_append_left _ (List.mem_singleton.mpr rfl))).1, ⟨acc, c, hget, by omega⟩, fun s' sl => ?_⟩
      obtain ⟨c2, hup⟩ := sl.own acc c hget
      have I3 : Inv X pins σ (upd H2 Sx (fillO Sx (acc.push v) c2)) { s1 with heap := s'.heap, toks := s1.toks } := I2.write (by rw [hS2]; trivial) (.inl rfl) sl.keep ⟨_, hup⟩ ⟨hup, ⟨_, hup⟩, fun h1 h2 q k => k _ q⟩
      have I4 : Inv X pins σ (upd H2 Sx (fillO Sx (acc.push v) c2)) s' := I3.call' (ch := []) sl.os Un.refl I3.hok sl.bare fun b z => by simp at z
      have g4 := grow_trans gr g2
      have g5 : Grow [] S1 H1 S2 (upd H2 Sx (fillO Sx (acc.push v) c2)) := ⟨g4.s, g4.sh.mut nS, fun b o e hm => by rw [upd_ne (ne_of_none e hn)]; exact g4.h b o e hm, g4.n⟩
      have u2 := un_piece Ic.hok u J
      have neS : ∀ b o, sc.heap.get? b = some o → H1 b = none → H2 b = none → b ≠ Sx := fun b o _ _ e z => by rw [z, hS2] at e; cases e
      have u3 : Un (frs X.stack) [] H1 (upd H2 Sx (fillO Sx (acc.push v) c2)) sc.heap s'.heap := by
        have neT : ∀ b o, H1 b = some o → b ≠ Sx := fun b o e z => by rw [z, hn] at e; cases e
        refine ⟨fun b o e n hb hx => sl.keep b o (neS b o e n (u2.free b o e n hx)) (u2.keep b o e n hb hx), fun b o e n hb hx => ?_, fun b o e n hx => ?_, fun b o e hx => ?_, fun b xs e => ?_, fun b o v e => ?_, fun b ps e => ?_⟩
        · obtain ⟨sl2, q⟩ := u2.slot b o e n hb hx
          exact ⟨sl2, sl.keep b _ (neS b o e n (u2.free b o e n hx)) q⟩
        · rw [upd_ne (neS b o e n (u2.free b o e n hx))]; exact u2.free b o e n hx
        · obtain ⟨o', q⟩ := u2.there b o e hx
          by_cases z : b = Sx
          · exact ⟨_, by rw [z]; exact hup⟩
          · exact ⟨o', sl.keep b o' z q⟩
        · rw [upd_ne (neT b _ e)]; exact u2.tups b xs e
        · rw [upd_ne (neT b _ e)]; exact u2.frzs b o v e
        · obtain ⟨more, q⟩ := u2.tbls b ps e
          exact ⟨more, by rw [upd_ne (neT b _ e)]; exact q⟩
      obtain ⟨n', rfl⟩ : ∃ n', n = n' + 1 := ⟨n - 1, by omega⟩
      have hm2 : outs.length + 1 - (i + 1) = m := by omega
      have hl := J.1
      have next := ih n' (Nat.lt_succ_self n') (End.susp v g0 l k c' p' fs').genState (i + 1) (ys ++ [x]) (zs ++ [x]) ip2 S2 _ S2 s' s1 (acc.push v) c2 (by omega) hlt (by simp [hys]) I4 u3 upd_same g5 nS (by rw [Array.toList_push]; exact rv.append (.cons rx .nil))
        (by rw [List.take_add_one, hdd]; exact (rp.mono g2.s).append (.cons rpd .nil)) (.refl _) (fun b hb => ?_) (by rw [hm2]; exact rsm2)
      · exact next
      · have e1 : ((fmX X A N qual scope f cd a go sc.heap.objs.size (Dn.E X.K outs.length .yes)).X s H).env = (fmX X A N qual scope f cd a go sc.heap.objs.size (Dn.E X.K outs.length .yes)).e0 := Fm.env hl
        obtain ⟨o, ho, hb2⟩ : ∃ o, s1.heap.get? b = some o ∧ H2 b = none := by
          rcases hb with rfl | ⟨y, hb⟩ | ⟨p, hp1, rfl⟩
          · obtain ⟨_, ⟨o, _, _, ho, _⟩, _⟩ := J.2.2.loc
            have h2 := J.2.2.free
            rw [e1] at ho h2
            exact ⟨o, ho, h2⟩
          · obtain ⟨v', o, ho, _⟩ := J.2.2.cell y b (by rw [e1]; exact hb)
            exact ⟨o, ho, J.2.2.freeC y b (by rw [e1]; exact hb)⟩
          · obtain ⟨h1, h2, _⟩ := J.2.2.pin p hp1
            exact ⟨p.2, h1, h2⟩
        have nb : b ≠ Sx := fun z => by rw [z, hS2] at hb2; cases hb2
        exact ⟨o, ho, sl.keep b o nb ho, by rw [upd_ne nb]; exact hb2⟩
  cases gs with
  | fresh c0 => exact ⟨rfl, key _ _ _ go1⟩
  | suspended k l c0 p fs cl => exact key _ _ _ go1
  | running => exact go1.elim
  | finished => exact go1.elim
/-- a new generator of ours, said as the kit says it -/
theorem made_kit {k : Nat} {u : Value} (Ic : Inv X pins σ H1 sc) (R1 : Rel X.K fr ρ σ S1 H1 ad) (os1 : s1.os = sc.os) (b1 : AllBare s1.gens) (kp1 : ∀ b o, sc.heap.get? b = some o → s1.heap.get? b = some o) (hz : outs.length ≤ sizeLine)
    (mk : GMk X.prog X.w X.K X.mg X.base k X.stack S1 sc.heap.objs.size outs .yes u s1) : GMade X.prog X.w k X.stack H1 sc [] (ListQ X.K S1 H1 outs) (fun _ _ _ => False) u s1 := by
  obtain ⟨a, g, body, N, qual, scope, f, cd, go, e, hLa, hao, hg, hgs, ⟨oL, hoL⟩, hcell, rsm⟩ := mk
  have I1 : Inv X pins σ H1 s1 := Ic.call' (ch := []) os1 (Un.kept kp1) (Ic.hok.kept kp1) b1 fun b z => by simp at z
  refine ⟨a, g, _, e, Nat.le_of_lt hLa, Heap.lt_size hao, hg _ hao, hgs, os1, b1, I1.nolimit, kp1, fun A Sx s2 hA hfr hSx kp2 ⟨c, hS⟩ os2 b2 => ?_⟩
  have hn : H1 Sx = none := Ic.hok.fresh (Nat.le_trans (Nat.le_of_lt (Nat.lt_trans hLa (Heap.lt_size hao))) hSx)
  have I2 : Inv X pins σ H1 s2 := I1.call' (ch := []) (os2.trans os1.symm) (Un.kept kp2) (I1.hok.kept kp2) b2 fun b z => by simp at z
  have old : Old X pins sc.heap.objs.size := old_of Ic
  have I3 := inv_addO (Pb := isS Sx) I2 old (fun b hb => by rw [show b = Sx from hb]; exact hn) fun b hb => by rw [show b = Sx from hb]; exact Nat.le_trans (Nat.le_of_lt (Nat.lt_trans hLa (Heap.lt_size hao))) hSx
  have hin : addO (isS Sx) s2.heap H1 Sx = some (fillO Sx #[] c) := addO_in (Pb := isS Sx) rfl hS
  have hnS : ∀ b, isS Sx b → H1 b = none := fun b hb => by rw [show b = Sx from hb]; exact hn
  have nS : S1 Sx = none := R1.grow.sh.back hn
  have g1 : Grow [] S1 H1 S1 (addO (isS Sx) s2.heap H1) := ⟨.refl _, fun b o e => (addO_of hnS (R1.grow.sh b o e)).2, fun b o e _ => (addO_of hnS e).2, fun b e _ _ => e⟩
  have u1 : Un (frs X.stack) [] H1 (addO (isS Sx) s2.heap H1) sc.heap s2.heap := by
    have lt : ∀ b o, sc.heap.get? b = some o → ¬ isS Sx b := fun b o e z => by
      have h1 := Heap.lt_size (kp1 b o e)
      rw [show b = Sx from z] at h1
      exact absurd (Nat.lt_of_lt_of_le h1 hSx) (Nat.lt_irrefl _)
    exact ⟨fun b o e _ _ _ => kp2 b o (kp1 b o e), fun b o e _ _ _ => ⟨_, kp2 b o (kp1 b o e)⟩, fun b o e n _ => (addO_out (lt b o e)).trans n, fun b o e _ => ⟨o, kp2 b o (kp1 b o e)⟩, fun b xs e => (addO_of hnS e).2, fun b o v e => (addO_of hnS e).2, fun b ps e => ⟨#[], by rw [(addO_of hnS e).2]; simp⟩⟩
  have fresh : ∀ b, sc.heap.objs.size ≤ b → H1 b = none := fun b hb => Ic.hok.fresh hb
  have := goes_kit (N := N) (qual := qual) (scope := scope) (f := f) (cd := cd) hfr hg Ic hz hn sizeLine (.fresh (.func body (envOfC qual scope sc.heap.objs.size f cd))) 0 [] [] [] S1 _ S1 s2 s1 #[] c (Nat.add_zero _) (Nat.zero_le _) rfl I3 u1 hin g1 nS .nil .nil (.refl _) (fun b hb => ?_) (rsm A hA hfr)
  · exact this.2
  · obtain ⟨o, h1, hb2⟩ : ∃ o, s1.heap.get? b = some o ∧ H1 b = none := by
      rcases hb with rfl | ⟨y, hb⟩ | ⟨p, hp1, rfl⟩
      · exact ⟨oL, hoL, fresh _ (Nat.le_refl _)⟩
      · obtain ⟨h1, o, h2⟩ := hcell y b hb
        exact ⟨o, h2, fresh _ h1⟩
      · have e2 : p = (a, go) := by simpa using hp1
        rw [e2]
        exact ⟨go, hao, fresh _ (Nat.le_of_lt hLa)⟩
    have nb : ¬ isS Sx b := fun z => by
      have := Heap.lt_size h1
      rw [show b = Sx from z] at this
      exact absurd (Nat.lt_of_lt_of_le this hSx) (Nat.lt_irrefl _)
    exact ⟨o, h1, kp2 b o h1, (addO_out nb).trans hb2⟩
variable {e : Expr} {nm : Str} {p pos : Pos}
/-- list(g(..)) -/
theorem ed_listG (hge : GE X ρ e outs .yes ρ1) (hc : X.calm = true) (hz : outs.length ≤ sizeLine) (hg : Gl X nm) (hmg : X.mg nm = none) (hv : bootBuiltins nm = some (.type "list")) (hnm : nm ≠ "__name__" := by decide) (hdb : (nm == ("__debug__" : Str)) = false := by decide)
    (he : starEach [e] X.env = (false, eval e X.env) :: starEach [] X.env := by rfl) : ED X ρ (.Call (.Name nm p) [e] [] pos) (.d (.lst outs)) ρ1 := by
  refine ⟨fun pins s σ H Q I ⟨fr, S, ad, R, kk⟩ => wpAny_Call_Name_kw (ld_blt I hg hmg hv (PyProof.Rows.callWith_type1 ?_ he rfl) hnm hdb)⟩
  rw [he]
  show wpAny _ _ (spliced ((false, eval e X.env) :: backTo pos (starEach [] X.env))) _ _ s
  refine Calls.spliced_cons (thn (hge pins s σ H fr S ad I R) fun u s1 ⟨S1, H1, ad1, sc, kr, Ic, st1, R1, os1, b1, kp1, room, mk⟩ => Calls.spliced_nil ?_)
  have made := made_kit Ic R1 os1 b1 kp1 hz mk
  have hsz : sc.heap.objs.size ≤ s1.heap.objs.size := by
    obtain ⟨a, g, c, _, h1, h2, _⟩ := made
    exact Nat.le_trans h1 (Nat.le_of_lt h2)
  refine call_list_new (room.mono (by omega)) I.ok.frames made (fun Sx s' acc c H' ys q0 q1 q2 hl q3 q4 q5 q6 q7 q8 => ?_) fun e s' g cx => ?_
  · obtain ⟨S', gr, rp⟩ := q8
    have hn : H1 Sx = none := Ic.hok.fresh (Nat.le_trans hsz q0)
    have nS : S' Sx = none := gr.sh.back q7
    have g2 : Grow [] S1 H1 (upd S' Sx (.lst ys)) (upd H' Sx (.lst ys)) := ⟨gr.s.mut (R1.grow.sh.back hn), gr.sh.both, fun b o e hm => by rw [upd_ne (ne_of_none e hn)]; exact gr.h b o e hm, fun b e1 e2 e3 => by
      have : b ≠ Sx := fun z => e2 (z ▸ hn)
      rw [upd_ne this]; exact gr.n b e1 e2 e3⟩
    exact ⟨.ref Sx, _, Ic.drained (Nat.le_trans hsz q0) hl q1 q2 .nil q3 q4 q5 q6 q7, rfl, kk _ _ ad1 _ ⟨st1.s.trans g2.s, st1.a⟩ (Rel.ran R1 g2) (.d (.lst (SqL.of upd_same) (rp.mono (.new nS))))⟩
  · obtain ⟨_, _, _, _, _, _, _, _, _, _, _, _, hW⟩ := cx
    exact hW.elim
end
end GX

/-! ### mirrors of generators: all that is still to be handed out, and whether the end comes behind it -/
namespace GX
open PySem PySem.Spec PyProof.Rows L2 GenW
open DL (Ex Rel Rp RpAll Rv RvAll D VD OD OR KnOk Kn SD SDs ED AD TD GD ItD tS tE tA tT tG tI Grow Step env0 AllD Wk LocOk TG Fl bnd ct cf sm)
/-- what it hands out, and what comes behind that -/
abbrev GRo (τ : Type) := Option (List D × τ)
abbrev GR := GRo Bool
def gY {τ : Type} (d : D) (r : GRo τ) : GRo τ := r.map fun p => (d :: p.1, p.2)
theorem gY_inv {τ : Type} {d : D} {r : GRo τ} {l : List D} {done : τ} (h : gY d r = some (l, done)) : ∃ l', l = d :: l' ∧ r = some (l', done) := by
  cases r with
  | none => cases h
  | some p =>
    obtain ⟨l', b⟩ := p
    cases h
    exact ⟨l', rfl, rfl⟩
def forG {σ τ : Type} (f : D → σ → (σ → GRo τ) → (σ → GRo τ) → GRo τ) : List D → σ → (σ → GRo τ) → GRo τ
  | [], s, k => k s
  | d :: ds, s, k => f d s (fun s' => forG f ds s' k) k
/-- behind o there is still l -/
structure Rem (outs o l : List D) : Prop where
  drop : outs.drop o.length = l
  len : o.length + l.length = outs.length
theorem Rem.start {outs : List D} : Rem outs [] outs := ⟨rfl, by simp⟩
theorem Rem.next {outs o l : List D} {d : D} (h : Rem outs o (d :: l)) : outs[o.length]? = some d ∧ Rem outs (o ++ [d]) l := by
  obtain ⟨h1, h2⟩ := h
  have e : outs[o.length]? = some d := by
    have : (outs.drop o.length)[0]? = some d := by rw [h1]; rfl
    rw [List.getElem?_drop] at this; simpa using this
  refine ⟨e, ?_, ?_⟩
  · rw [List.length_append, List.length_singleton, ← List.drop_drop, h1]; rfl
  · rw [List.length_append, List.length_singleton]; simp at h2; omega
section
variable {Φ : Fm} {st : Stmt} {r body : List Stmt} {o l : List D} {ρ ρ1 : DEnv} {k : Kg} {pos yp : Pos} {e c tg iter : Expr} {d : D} {outs ds : List D} {τ : Type} {φ : τ → Dn} {done : τ} {p : Bool} {j : Nat}
def NxG {σ τ : Type} (φ : τ → Dn) (C : σ → DEnv) (outs : List D) (done : τ) (κ : σ → GRo τ) (o : List D) (ρ : DEnv) : Prop := ρ.ow = [] ∧ ∃ s l, Wk ρ (C s) ∧ κ s = some (l, done) ∧ Rem outs o l ∧ o.length < outs.length + (φ done).n
def KC {σ τ : Type} (φ : τ → Dn) (C : σ → DEnv) (outs : List D) (done : τ) (κn κb : σ → GRo τ) : Kg := { nx := NxG φ C outs done κn, ct := NxG φ C outs done κn, bk := NxG φ C outs done κb }
theorem room_X {s₀ : Shared} {H₀ : Hp} (h : Room j (Φ.A.deeper Φ.e0)) : Room j (Φ.X s₀ H₀).nox.A := ⟨h.hd, h.dp, h.un⟩
theorem gds_plR (hrm : Room j (Φ.A.deeper Φ.e0)) (h : ∀ s₀ H₀, Room j (Φ.X s₀ H₀).nox.A → SDs (Φ.X s₀ H₀).nox ρ [st] { nx := fun ρ' => ρ'.ow = [] ∧ GDs Φ (Br Φ.K outs (φ done)) o ρ' r k, rt := fun _ _ => False, bk := fun ρ' => ρ'.ow = [] ∧ k.bk o ρ', ct := fun ρ' => ρ'.ow = [] ∧ k.ct o ρ' }) :
    GDs Φ (Br Φ.K outs (φ done)) o ρ (st :: r) k := gds_pl fun s₀ H₀ _ => h s₀ H₀ (room_X hrm)
theorem gds_eq (h : GDs Φ (Br Φ.K outs (φ done)) o ρ1 r k) (e : ρ = ρ1) : GDs Φ (Br Φ.K outs (φ done)) o ρ r k := e ▸ h
theorem gds_endM {done : Bool} (h : (some ([], true) : GR) = some (l, done)) (rem : Rem outs o l) : GDs Φ (Br Φ.K outs (ofB done)) o ρ [] { nx := fun o _ => ofB done = .yes ∧ o.length = outs.length } := by
  cases h
  exact gds_nil ⟨rfl, by have := rem.len; simpa using this⟩
theorem gds_yieldM {m : GRo τ} (hrm : Room j (Φ.A.deeper Φ.e0)) (h : gY d m = some (l, done)) (rem : Rem outs o l) (he : ∀ s₀ H₀, Room j (Φ.X s₀ H₀).nox.A → ED (Φ.X s₀ H₀).nox ρ e (.d d) ρ1) (h1 : ρ1.ow = [])
    (hr : ∀ l', m = some (l', done) → Rem outs (o ++ [d]) l' → (o ++ [d]).length < outs.length + (φ done).n → GDs Φ (Br Φ.K outs (φ done)) (o ++ [d]) ρ1 r k) (hco : Φ.scope.isCoroutine = false := by rfl) (hi : interactive Φ.e0 = false := by rfl) :
    GDs Φ (Br Φ.K outs (φ done)) o ρ (.Expr (.Yield (some e) yp) pos :: r) k := by
  obtain ⟨l', rfl, h2⟩ := gY_inv h
  obtain ⟨e1, rem2⟩ := rem.next
  exact gds_yield (fun s₀ H₀ _ => he s₀ H₀ (room_X hrm)) h1 e1 (fun hlt => hr l' h2 rem2 (by rw [List.length_append, List.length_singleton]; exact hlt)) hco hi
theorem gds_forC {σ : Type} {vs : List Nat} (C : σ → DEnv) (hL : ∀ s, LocOk (C s)) (f : D → σ → (σ → GRo τ) → (σ → GRo τ) → GRo τ) {s0 : σ} {kk : σ → GRo τ} (hrm : Room j (Φ.A.deeper Φ.e0)) (hf : forG f ds s0 kk = some (l, done)) (rem : Rem outs o l) (lt : o.length < outs.length + (φ done).n) (h1 : ρ1.ow = []) (h0 : Wk ρ1 (C s0))
    (hi : ∀ s₀ H₀, Room j (Φ.X s₀ H₀).nox.A → ItD (Φ.X s₀ H₀).nox ρ tg iter ds ρ1)
    (hs : ∀ d s κn o l, f d s κn kk = some (l, done) → Rem outs o l → o.length < outs.length + (φ done).n → ∃ ll, (∀ s₀ H₀, Room j (Φ.X s₀ H₀).nox.A → TG (Φ.X s₀ H₀).nox vs tg d ll) ∧ GDs Φ (Br Φ.K outs (φ done)) o ((C s).puts ll) body (KC φ C outs done κn kk))
    (hd : ∀ s o l, kk s = some (l, done) → Rem outs o l → o.length < outs.length + (φ done).n → GDs Φ (Br Φ.K outs (φ done)) o (C s) r k) (hfs : ∀ x, foldedSetIterable iter Φ.e0 x = pure x := by intro _; rfl) : GDs Φ (Br Φ.K outs (φ done)) o ρ (.For tg iter body [] pos :: r) k := by
  refine gds_for (vs := vs) (fun s₀ H₀ _ => hi s₀ H₀ (room_X hrm)) h1 (fun i o ρ => ρ.ow = [] ∧ ∃ s l, Wk ρ (C s) ∧ forG f (ds.drop i) s kk = some (l, done) ∧ Rem outs o l ∧ o.length < outs.length + (φ done).n) ⟨h1, s0, l, h0, hf, rem, lt⟩ ?_ ?_ hfs
  · rintro i d o ρ hdd ⟨how, s, l, w, hF, rem, lt⟩
    have e : ds.drop i = d :: ds.drop (i + 1) := by
      have hlt := (List.getElem?_eq_some_iff.mp hdd).1
      rw [List.drop_eq_getElem_cons hlt]
      congr 1
      exact (List.getElem?_eq_some_iff.mp hdd).2
    rw [e] at hF
    obtain ⟨ll, tgd, hb⟩ := hs d s (fun s' => forG f (ds.drop (i + 1)) s' kk) o l hF rem lt
    refine ⟨ρ.puts ll, fun s₀ H₀ _ => tgd s₀ H₀ (room_X hrm) ρ, by rw [DL.puts_ow]; exact how, ?_⟩
    refine GSs.imp (gds_wk w.puts (DL.LocOk.puts (hL s)) hb) fun Dn S₀ H₀ ys σ H ⟨Sb, S, eb, ho, R, kk2⟩ => ⟨Sb, S, eb, ho, R, fun o ρ S₀ H₀ ys σ S H ⟨q0, s', l', q1, q2, q3, q4⟩ => kk2.nx o ρ S₀ H₀ ys σ S H ⟨q0, s', l', q1, q2, q3, q4⟩,
      fun o ρ S₀ H₀ ys σ S H ⟨q0, s', l', q1, q2, q3, q4⟩ => kk2.bk o ρ S₀ H₀ ys σ S H (gds_wk q1 (hL s') (hd s' o l' q2 q3 q4)), fun o ρ S₀ H₀ ys σ S H ⟨q0, s', l', q1, q2, q3, q4⟩ => kk2.ct o ρ S₀ H₀ ys σ S H ⟨q0, s', l', q1, q2, q3, q4⟩⟩
  · rintro o ρ ⟨how, s, l, w, hF, rem, lt⟩
    rw [List.drop_length] at hF
    exact gds_wk w (hL s) (hd s o l hF rem lt)
end
/-! #### in the caller -/
/-- list(g) -/
def gList (r : GR) : Option D := r.bind fun p => cond (p.2 && decide (p.1.length ≤ sizeLine)) (some (.lst p.1)) none
theorem gList_inv {r : GR} {d : D} (h : gList r = some d) : ∃ l, d = .lst l ∧ r = some (l, true) ∧ l.length ≤ sizeLine := by
  obtain ⟨⟨l, b⟩, h1, h2⟩ := bnd h
  cases q : (b && decide (l.length ≤ sizeLine)) with
  | false =>
    have h2 : cond (b && decide (l.length ≤ sizeLine)) (some (D.lst l)) none = some d := h2
    rw [q] at h2
    cases h2
  | true =>
    have h2 : cond (b && decide (l.length ≤ sizeLine)) (some (D.lst l)) none = some d := h2
    rw [q] at h2
    cases h2
    simp only [Bool.and_eq_true, decide_eq_true_eq] at q
    obtain ⟨rfl, q2⟩ := q
    exact ⟨l, rfl, h1, q2⟩
/-- for x in g: behind the last item the generator must have ended -/
def forH {σ τ : Type} (f : D → σ → Option (Fl σ τ)) : List D → Bool → σ → Option (Fl σ τ)
  | [], b, s => cond b (some (.nx s)) none
  | d :: ds, b, s => (f d s).bind fun
    | .nx s' => forH f ds b s'
    | .bk s' => some (.nx s')
    | .rt t => some (.rt t)
theorem forH_drop {σ τ : Type} {f : D → σ → Option (Fl σ τ)} {ds : List D} {b : Bool} {s : σ} {fl : Fl σ τ} {i : Nat} {d : D} (hd : ds[i]? = some d) (h : forH f (ds.drop i) b s = some fl) : ∃ fl1, f d s = some fl1 ∧ (match fl1 with
    | .nx s' => forH f (ds.drop (i + 1)) b s'
    | .bk s' => some (.nx s')
    | .rt t => some (.rt t)) = some fl := by
  have e : ds.drop i = d :: ds.drop (i + 1) := by
    have hlt := (List.getElem?_eq_some_iff.mp hd).1
    rw [List.drop_eq_getElem_cons hlt]
    congr 1
    exact (List.getElem?_eq_some_iff.mp hd).2
  rw [e] at h
  obtain ⟨fl1, h1, h2⟩ := bnd h
  exact ⟨fl1, h1, by cases fl1 <;> exact h2⟩
theorem alO_nil : AliveO [] := fun n h => by simp at h
theorem alO_cons {o : OD} {r : List (Option OD)} (h : AliveO r) : AliveO (some o :: r) := fun n hn => by
  cases n with
  | zero => exact ⟨o, rfl⟩
  | succ n =>
    obtain ⟨u, e⟩ := h n (by simpa using hn)
    exact ⟨u, by simpa using e⟩
def knA {σ τ : Type} (C : σ → DEnv) (RT : τ → D → List (Option OD) → Prop) (fl : Fl σ τ) : Kn where
  nx := fun ρ => AliveO ρ.ow ∧ ∃ s, fl = .nx s ∧ Wk ρ (C s)
  ct := fun ρ => AliveO ρ.ow ∧ ∃ s, fl = .nx s ∧ Wk ρ (C s)
  bk := fun ρ => AliveO ρ.ow ∧ ∃ s, fl = .bk s ∧ Wk ρ (C s)
  rt := fun d ow => AliveO ow ∧ ∃ t, fl = .rt t ∧ RT t d ow
section
variable {X : Cx} {ρ ρ1 : DEnv} {r body : List Stmt} {k : Kn} {pos : Pos} {tg iter : Expr} {outs : List D} {done : Bool}
theorem sds_forHC {σ τ : Type} {vs : List Nat} (C : σ → DEnv) (hL : ∀ s, LocOk (C s)) (RT : τ → D → List (Option OD) → Prop) (f : D → σ → Option (Fl σ τ)) {s0 : σ} {fl : Fl σ τ} (hge : GE X ρ iter outs (ofB done) ρ1) (hf : forH f outs done s0 = some fl) (h0 : Wk ρ1 (C s0))
    (hs : ∀ d s fl, f d s = some fl → ∃ l, TG X vs tg d l ∧ SDs X ((C s).puts l) body (knA C RT fl))
    (hd : ∀ s, fl = .nx s → SDs X (C s) r k) (hr : ∀ t d ow, fl = .rt t → RT t d ow → k.rt d ow) (hx0 : ∀ e s, X.xe e s → False) (hc : X.calm = true) (hfs : ∀ x, foldedSetIterable iter X.env x = pure x := by intro _; rfl) : SDs X ρ (.For tg iter body [] pos :: r) k := by
  refine sds_forG (vs := vs) hge hx0 hc (fun i ρ => ∃ s, Wk ρ (C s) ∧ forH f (outs.drop i) done s = some fl) ⟨s0, h0, hf⟩ ?_ ?_ hfs
  · rintro i d ρ hdd ⟨s, w, hF⟩
    obtain ⟨fl1, h1, h2⟩ := forH_drop hdd hF
    obtain ⟨l, tgd, hb⟩ := hs d s fl1 h1
    refine ⟨ρ.puts l, tgd ρ, DL.sds_wk w.puts (DL.LocOk.puts (hL s)) (hb.imp ?_ ?_ ?_ ?_)⟩
    · rintro ρ ⟨al, s', rfl, w'⟩
      exact ⟨al, s', w', h2⟩
    · rintro d ow ⟨al, t, rfl, hrt⟩
      exact ⟨al, hr t d ow (sm h2).symm hrt⟩
    · rintro ρ ⟨al, s', rfl, w'⟩
      exact ⟨al, DL.sds_wk w' (hL s') (hd s' (sm h2).symm)⟩
    · rintro ρ ⟨al, s', rfl, w'⟩
      exact ⟨al, s', w', h2⟩
  · rintro ρ ⟨s, w, hF⟩
    rw [List.drop_length] at hF
    cases done with
    | true => exact ⟨rfl, DL.sds_wk w (hL s) (hd s (sm (ct hF)).symm)⟩
    | false => cases hF
end
end GX

/-! ### list(g), by the mirror -/
namespace GX
open PySem PySem.Spec PyProof.Rows L2 GenW
open DL (D ED)
theorem ed_listGM {X : Cx} {ρ ρ1 : DEnv} {e : Expr} {nm : Str} {p pos : Pos} {m : GR} {d : D} (h : gList m = some d) (hge : ∀ l, m = some (l, true) → GE X ρ e l .yes ρ1) (hc : X.calm = true) (hg : Gl X nm) (hmg : X.mg nm = none) (hv : bootBuiltins nm = some (.type "list")) (hnm : nm ≠ "__name__" := by decide)
    (hdb : (nm == ("__debug__" : Str)) = false := by decide) (he : starEach [e] X.env = (false, eval e X.env) :: starEach [] X.env := by rfl) : ED X ρ (.Call (.Name nm p) [e] [] pos) (.d d) ρ1 := by
  obtain ⟨l, rfl, h1, h2⟩ := gList_inv h
  exact ed_listG (hge l h1) hc h2 hg hmg hv hnm hdb he
end GX
namespace DL
open PySem PySem.Spec PyProof.Rows L2
section
variable {X : Cx} {ρ ρ1 : Env} {a b : Expr} {rest : List Expr} {pos : Pos} {p q : Bool} {B : Option Bool}
/-- the first part changes objects of ours, the rest does not -/
theorem tw_orM1 (ha : TD X ρ a p ρ1) (h : cond p (some true) B = some q) (hb : B = some q → TW X ρ1 (.BoolOp .Or (b :: rest) pos) q ρ1) : TW X ρ (.BoolOp .Or (a :: b :: rest) pos) q ρ1 :=
  tw_orE (σ := PUnit) (fun _ => ρ1) (B := B.map fun x => (x, PUnit.unit)) (s0 := PUnit.unit) (s := PUnit.unit) ha (by
    cases p with
    | true => cases h; rfl
    | false =>
      have h : B = some q := h
      rw [h]; rfl) fun e => hb (by
    cases B with
    | none => cases e
    | some x => cases e; rfl)
end
end DL

/-! ### instances of several fields as values: v stands for the instance, its mirror for the fields -/
namespace DL
open PySem PySem.Spec PyProof.Rows L2
/-- an instance that has no field m -/
def IsM (C : Addr) (m : Str) (v : D) : Prop := ∃ (ns : List Str) (ds : List D), v = .ins C ns ds ∧ m ∉ ns
section
variable {X : Cx} {ρ ρ1 ρ2 : Env} {a e : Expr} {es : List Expr} {v d rr dd : D} {C : Addr} {f m n : Str} {pos apos pp : Pos} {xs : List VD} {dt : List D} {R : FSpec}
end
end DL
namespace GX
open PySem PySem.Spec PyProof.Rows L2 GenW
open DL (D VD ED AD AllD IsM)
end GX

/-! ### divmod; is None as a value -/
namespace DL
open PySem PySem.Spec PyProof.Rows L2
section
variable {X : Cx} {ρ ρ1 : Env} {a : Expr} {u w t d : D} {pos pos' : Pos} {j : Nat}
end
end DL

/-! ### d[k] of a dict of ours, its keys tuples -/
namespace DL
open PySem PySem.Spec PyProof.Rows L2
end DL
namespace GX
end GX

namespace DL
open PySem PySem.Spec PyProof.Rows L2
/-! ### list(d.values()), of a dict that is data -/
section
variable {X : Cx} {ρ ρ1 : Env} {d w : D} {e : Expr} {apos pos : Pos} {m : DM}
end
end DL

namespace DL
open PySem PySem.Spec PyProof.Rows L2
/-! ### comprehensions whose turns change what is ours -/
section
variable {X : Cx} {ρ ρ1 : Env} {c tg iter elt : Expr} {ifs : List Expr} {pos : Pos} {ds : List D} {d w : D} {l : List (Nat × D)}
section
variable {σ : Type} {f : D → σ → Option (Option D × σ)} {s0 s1 : σ} {out : List D} {gv : List Nat} {scope : Scope} {own : List (Str × Nat)}
end
end
end DL

namespace DL
open PySem PySem.Spec PyProof.Rows L2 LamX
/-! ### several defs that make closures: their tables are lent on -/
theorem Lend.more {ow : List (Option OD)} {n : Nat} {o : OD} {ns : List Nat} {os : List OD} (h : ow[n]? = some (some o)) (hf : o.free) (hn : n ∉ ns) (l : Lend ow ns os) : Lend ow (n :: ns) (o :: os) :=
  ⟨by simp [l.len], List.nodup_cons.mpr ⟨hn, l.nd⟩, fun i m e => by
    cases i with
    | zero => simp at e; subst e; exact ⟨o, h, rfl, hf⟩
    | succ i =>
      obtain ⟨u, h1, h2, h3⟩ := l.at_ i m (by simpa using e)
      exact ⟨u, h1, by simpa using h2, h3⟩⟩
/-- the law's promise with all tables lent -/
theorem law_sps {K : PySem.W.Frag} {R : FSpec} {ts : List (Addr × Str)} (H : Hp) (a : Addr) (ns : List Int) (nd : (ts.map fun p => p.1).Nodup) (hP : ∀ p ∈ ts, H p.1 = some (.tbl #[])) (hS : SqL K H a (ns.map V.int))
    (hR : R [.d (.lst (ns.map D.int))] (ts.map fun p => .tb p.1 p.2) (.bl true) (ts.map fun p => .tb p.1 p.2)) : spF K R [.ref a] H (fun v _ => v = .bl true) fun _ _ _ => False := by
  have hin : ∀ b, b ∈ ts.map (fun p => p.1) → H b = some (.tbl #[]) := fun b hb => by
    obtain ⟨p, hp, rfl⟩ := List.mem_map.mp hb
    exact hP p hp
  refine ⟨fun b => if b ∈ ts.map (fun p => p.1) then none else H b, ts.map fun p => p.1, [.d (.lst (ns.map D.int))], ts.map fun p => .tb p.1 p.2, .bl true, ts.map fun p => .tb p.1 p.2, fun b o e => ?_, .cons (.d (.lst ?_ (RpAll.of_ints ns))) .nil, ⟨by simp, fun i o e => ?_⟩, nd, hR, fun o ho => ?_, fun S' H' v _ r _ => r.bl_inv⟩
  · have e : (if b ∈ ts.map (fun p => p.1) then none else H b) = some o := e
    split at e
    · cases e
    · exact e
  · have ne : ∀ b u, H b = some u → (∀ ps, u ≠ .tbl ps) → (fun b => if b ∈ ts.map (fun p => p.1) then none else H b) b = some u := fun b u e hu => by
      have : b ∉ ts.map (fun p => p.1) := fun z => by rw [hin b z] at e; cases e; exact hu _ rfl
      show (if b ∈ ts.map (fun p => p.1) then none else H b) = some u
      rw [if_neg this]; exact e
    rcases hS with (h | ⟨o, h⟩) | h
    · exact .inl (.inl (ne _ _ h fun _ z => by cases z))
    · exact .inl (.inr ⟨o, ne _ _ h fun _ z => by cases z⟩)
    · exact .inr h
  · rw [List.getElem?_map] at e
    cases q : ts[i]? with
    | none => rw [q] at e; cases e
    | some p =>
      rw [q] at e
      cases e
      have hm := List.mem_of_getElem? q
      have hb : p.1 ∈ ts.map (fun p => p.1) := List.mem_map.mpr ⟨p, hm, rfl⟩
      refine ⟨p.1, .tbl #[], by rw [List.getElem?_map, q]; rfl, if_pos hb, hP p hm, rfl, True.intro, fun pos cv z => ?_⟩
      have z : codeAmong pos [] = some cv := z
      simp [codeAmong] at z
  · obtain ⟨p, _, rfl⟩ := List.mem_map.mp ho
    exact True.intro
end DL

namespace DL
open PySem PySem.Spec PyProof.Rows L2
/-! ### what is raised: methods of instances that are values, constructors -/
section
variable {X : Cx} {E : XK} {ρ ρ1 ρ2 : Env} {a e : Expr} {es : List Expr} {v u : D} {C : Addr} {m n : Str} {pos apos pp spos : Pos} {xs : List VD} {ds dt : List D} {RX : XSpec} {x : XV}
structure XKs (P : Program) (w : World) (K : PySem.W.Frag) (mg : Str → Option Value) (base : Heap) (A : Around) (C : Addr) (n : Str) (R : XSpec) : Prop where
  ex : ∃ f j, FnR P w K mg base (L2.CX P w) j f (spX K R) ∧ Room (j + 1) A ∧ Mk K C f ∧ mg n = some (.ref C)
end
end DL

namespace DL
open PySem PySem.Spec PyProof.Rows L2
/-! ### class methods, constants of a class, own operators that raise, == and in of instances that are data -/
section
variable {X : Cx} {E : XK} {ρ ρ1 ρ2 : Env} {a b e : Expr} {es : List Expr} {d u rr w : D} {C : Addr} {m n f : Str} {pos apos pp spos : Pos} {xs : List VD} {ds ds' dt : List D} {ns : List Str} {R : FSpec} {RX : XSpec} {x : XV} {p : Bool}
structure CCMs (P : Program) (w : World) (K : PySem.W.Frag) (mg : Str → Option Value) (base : Heap) (A : Around) (C : Addr) (m : Str) (R : FSpec) : Prop where
  cr : ClX.CRead K C (.type "type")
  ex : ∃ f j q, FnR P w K mg base CX0 j f (spF K R) ∧ Room j A ∧ ClX.CMet K C (.type "type") m q f
structure XCMs (P : Program) (w : World) (K : PySem.W.Frag) (mg : Str → Option Value) (base : Heap) (A : Around) (C : Addr) (m : Str) (R : XSpec) : Prop where
  cr : ClX.CRead K C (.type "type")
  ex : ∃ f j q, FnR P w K mg base (L2.CX P w) j f (spX K R) ∧ Room j A ∧ ClX.CMet K C (.type "type") m q f
/-! own operators that raise -/
structure XSs (P : Program) (w : World) (K : PySem.W.Frag) (mg : Str → Option Value) (base : Heap) (A : Around) (C : Addr) (m : Str) (R : XSpec) : Prop where
  ex : ∃ f j, FnR P w K mg base (L2.CX P w) j f (spX K R) ∧ Room (j + 1) A ∧ PySem.W.findIn K (.ref C) m = some (some (.ref f)) ∧ PySem.W.isFn K (.ref f) = true ∧ PySem.W.selfFirst K C = true
def dT : D → Option String
  | .int _ => some "int"
  | .bl _ => some "bool"
  | .non => some "NoneType"
  | _ => none
/-! o[i] raises -/
/-! e in o, o an instance that is data -/
/-! == of an instance with another one, or with a tuple -/
end
end DL

namespace DL
open PySem PySem.Spec PyProof.Rows L2
/-! ### and, or as values that change what is ours -/
section
variable {X : Cx} {ρ ρ1 ρ2 : Env} {a b e : Expr} {rest : List Expr} {pos : Pos} {p q : Bool}
theorem ED.env {x : VD} (he : ED X ρ e x ρ1) (h : ρ1 = ρ2) : ED X ρ e x ρ2 := by subst h; exact he
end
/-! ### membership in a tuple, by equality -/
section
variable {X : Cx} {ρ ρ1 ρ2 : Env} {a b : Expr} {pos : Pos} {p : Bool} {d u : D}
end
end DL

namespace DL
open PySem PySem.Spec PyProof.Rows L2
/-! ### o.m( *e), o an object of ours -/
section
variable {X : Cx} {ρ ρ' ρ0 ρ1 ρ2 ρ3 : Env} {e a b c : Expr} {es : List Expr} {x y z : VD} {xs ys : List VD} {pos apos cpos pp spos : Pos} {p q : Bool} {ds ds' : List D} {u u' d d' w rr : D} {n m : Str} {R : FSpec} {C : Addr} {nms : List Str} {fxs : List VD} {o : Nat}
/-- a method that is bound, too -/
structure BMs (P : Program) (w : World) (K : PySem.W.Frag) (mg : Str → Option Value) (base : Heap) (A : Around) (C : Addr) (m : Str) (R : FSpec) : Prop where
  cl : Cls K C
  ex : ∃ f j, FnR P w K mg base CX0 j f (spF K R) ∧ Room j A ∧ BMeth K C m f
/-! ### d.get(key, e), d a dict of the module with text keys -/
end
end DL

namespace DL
open PySem PySem.Spec PyProof.Rows L2
/-! ### match t: case [a, *b] if guard: .. case _: .., t a tuple of one item or more -/
section
variable {prog : Program} {w : World} {A : Around} {E : Value → Shared → Prop} {s : Shared}
end
section
variable {X : Cx} {ρ ρ1 ρ2 : Env} {sub g : Expr} {b1 b2 r : List Stmt} {p1 p2 p3 p4 pos : Pos} {n1 n2 : Str} {d x y : D} {ds : List D} {p : Bool} {k : Kn}
end
end DL
namespace DL
open PySem PySem.Spec PyProof.Rows L2
/-! ### try: .. finally: .., nothing raises -/
end DL

namespace DL
open PySem PySem.Spec PyProof.Rows L2
/-! ### objects of ours by a class method -/
section
variable {X : Cx} {E : XK} {ρ ρ0 ρ1 ρ2 : Env} {a b e : Expr} {es : List Expr} {d u rr w : D} {C : Addr} {m n f : Str} {pos apos pp spos : Pos} {xs : List VD} {ds ds' dt : List D} {ns : List Str} {p : Bool} {o : OD}
/-- C.m(e, ..) gives a new object of ours -/
structure CCOs (P : Program) (w : World) (K : PySem.W.Frag) (mg : Str → Option Value) (base : Heap) (A : Around) (C : Addr) (m : Str) (R : OSpec) : Prop where
  cr : ClX.CRead K C (.type "type")
  ex : ∃ f j q, FnR P w K mg base CX0 j f (spO K R) ∧ Room j A ∧ ClX.CMet K C (.type "type") m q f
end
/-! a tuple's first item and the rest; lists of one, two -/
section
variable {X : Cx} {ρ ρ1 ρ2 : Env} {a e : Expr} {u d rr : D} {ds : List D} {C : Addr} {m : Str} {pos apos spos : Pos} {o : Nat} {nms : List Str} {fxs : List VD} {R : FSpec}
end
end DL

namespace DL
open PySem PySem.Spec PyProof.Rows L2
/-! ### a list of ours is compared and stays ours -/
section
variable {X : Cx} {ρ ρ1 ρ2 : Env} {a b : Expr} {pos : Pos} {p : Bool} {d : D} {ds : List D} {o : Nat}
end
end DL

namespace DL
open PySem PySem.Spec PyProof.Rows L2
/-! ### a list of ours is looked at while e runs -/
section
variable {X : Cx} {ρ ρ1 : Env} {e : Expr} {n : Nat} {w w' : D} {ds0 : List D}
theorem ed_lookL (hn : ρ.ow[n]? = some (some (.lst ds0))) (he : ED X (ρ.vw n (.lst ds0)) e (.d w) ρ1) (hf : dFlat w = some w') (hs : ∀ ds, w ≠ .lst ds) : ED X ρ e (.d w') ρ := by
  refine ⟨fun pins s σ H Q I ⟨fr, S, ad, A, kk⟩ => (pe_lock he).run pins s σ H Q I ?_⟩
  obtain ⟨l, ho, e1, e2, e3, e4, e5⟩ := A.own n _ hn
  cases ho <;> first | exact e4.elim | skip
  rename_i vs0
  have e4 : RpAll X.K S vs0 ds0 := e4
  refine ⟨l, .lst vs0, e3, trivial, fun od => ?_⟩
  have eS : Ex S (upd S l (.frz od (.lst vs0))) := .new e2
  have eH : Ex (upd S l (.frz od (.lst vs0))) (upd H l (.frz od (.lst vs0))) := A.grow.sh.both
  have rp : Rp X.K (upd S l (.frz od (.lst vs0))) (.ref l) (.lst ds0) := .lst (.inl (.inr ⟨od, upd_same⟩)) (e4.mono eS)
  refine ⟨⟨[], _, _⟩, _, [], A.view e1 eS eH rp, fun S2 H2 ad2 v st2 A2 rv => ?_⟩
  have gr : Grow [] (upd S l (.frz od (.lst vs0))) (upd H l (.frz od (.lst vs0))) S2 H2 := A2.grow
  have hl2 : H2 l = some (.frz od (.lst vs0)) := gr.h l _ upd_same (by simp)
  have ew : w = w' := by
    cases w <;> simp only [dFlat] at hf <;> first | (split at hf <;> first | exact Option.some.inj hf | cases hf) | skip
  refine ⟨hl2, look_back (w' := w') A gr rfl (fun a ha => upd_ne ha) (fun a ha => upd_ne ha) (by rw [upd_same]; exact e3.symm) e1 hf rv.dd (fun ds ed ev => ?_) fun S' st R' r => ?_⟩
  · exact absurd ed (hs ds)
  · subst ew
    exact kk S' _ ad v st R' r
end
end DL

namespace DL
open PySem PySem.Spec PyProof.Rows L2
/-! ### dicts whose keys are tuples, as data: list(d), d.items(), len -/
section
variable {X : Cx} {ρ ρ1 : Env} {d u w : D} {e tg : Expr} {apos pos : Pos} {m : TM}
end
section
variable {P : Program} {w : World} {K : PySem.W.Frag} {d : Addr} {o : Obj} {es : Array DictEntry} {ep : Nat}
end
section
variable {X : Cx} {ρ ρ1 : Env} {d u w : D} {e tg : Expr} {apos pos tpos : Pos} {m : TM} {elts : List Expr} {kk : Nat} {ds : List D}
theorem RT.at {K : PySem.W.Frag} {S : Hp} : ∀ {kvs : List (List Key × V)} {m : TM} {i : Nat} {k : List Key} {v : V}, RT K S kvs m → kvs[i]? = some (k, v) → ∃ d, m[i]? = some (k, d) ∧ Rp K S v d
  | [], _, i, _, _, _, e => by simp at e
  | _ :: _, [], _, _, _, h, _ => h.elim
  | (k0, v0) :: kvs, (j, d0) :: m, 0, k, v, ⟨h1, h2, h3⟩, e => by
    cases e
    subst h1
    exact ⟨d0, rfl, h2⟩
  | (k0, v0) :: kvs, (j, d0) :: m, i + 1, k, v, ⟨h1, h2, h3⟩, e => RT.at (i := i) h3 e
end
end DL

namespace DL
open PySem PySem.Spec PyProof.Rows L2
/-! ### {k: v for ..}, its keys tuples -/
section
variable {X : Cx} {ρ ρ1 : Env} {tg iter kx vx : Expr} {ifs : List Expr} {pos : Pos} {Q : VK} {σ : L2.St} {l : List (Nat × D)} {vs : List Nat} {d u w : D} {ds : List D}
end
end DL

namespace DL
open PySem PySem.Spec PyProof.Rows L2
/-! ### [e for a in x for b in y] -/
section
variable {X : Cx} {ρ ρ1 : Env} {tg iter tg1 iter1 elt : Expr} {pos : Pos} {ds out : List D} {F : D → Option (List D × (D → Option D))} {gv gv1 vs vs1 : List Nat} {scope : Scope} {r : List Stmt} {k : Kn} {n : Str}
end
end DL

namespace DL
open PySem PySem.Spec PyProof.Rows L2
/-! ### dict(pairs), the keys tuples -/
section
variable {prog : Program} {w : World} {A : Around}
end
section
variable {X : Cx} {ρ ρ1 : Env} {d u w : D} {m : TM}
end
/-! ### d == {} -/
section
variable {prog : Program} {w : World} {A : Around}
end
section
variable {X : Cx} {ρ ρ1 : Env} {d u w : D} {a : Expr} {pos p2 : Pos} {m : TM} {p : Bool}
end
/-! ### len(d) -/
section
variable {X : Cx} {ρ : Env} {u w : D}
end
end DL

namespace DL
open PySem PySem.Spec PyProof.Rows L2 LamX
/-! ### [e(w) for w in closures]: the closures may change what is the maker's -/
/-- the slot jw holds the closure d; its maker's frame (slots σ) goes from ρ to ρ' -/
def tK (X : Cx) (σ : L2.St) (jw : Nat) (ρ : Env) (d r : D) (ρ' : Env) : TE := fun σ' H' Q => ∃ v0 fr S ad, σ'[jw]? = some (some v0) ∧ Rp X.K S v0 d ∧ Rel X.K fr ρ σ S H' ad ∧
  ∀ S2 H2 ad2 v, Step S ad S2 ad2 → Rel X.K fr ρ' σ S2 H2 ad2 → Rv X.K S2 ad2 v (.d r) → Q v H2
structure KStep (X : Cx) (bsc : Scope) (elt : Expr) (jw : Nat) (ρ : Env) (d r : D) (ρ' : Env) : Prop where
  m : ρ'.m = ρ.m
  sl : ρ'.sl = ρ.sl
  run : ∀ (pins : List (Addr × Obj)) (σ : L2.St), BlkI X pins σ bsc (fun Y => PE Y elt (tK X σ jw ρ d r ρ'))
inductive KChain (X : Cx) (bsc : Scope) (elt : Expr) (jw : Nat) : Env → List D → List D → Env → Prop
  | nil {ρ : Env} : KChain X bsc elt jw ρ [] [] ρ
  | cons {ρ ρ1 ρ2 : Env} {d r : D} {ds rs : List D} : KStep X bsc elt jw ρ d r ρ1 → KChain X bsc elt jw ρ1 ds rs ρ2 → KChain X bsc elt jw ρ (d :: ds) (r :: rs) ρ2
theorem KChain.length {X : Cx} {bsc : Scope} {elt : Expr} {jw : Nat} {ρ ρ' : Env} {ds rs : List D} (h : KChain X bsc elt jw ρ ds rs ρ') : rs.length = ds.length := by
  induction h with
  | nil => rfl
  | cons _ _ ih => simp [ih]
section
variable {X : Cx} {ρ ρ1 ρ2 : Env} {elt iter : Expr} {w : Str} {pw pos : Pos} {jw : Nat} {scope : Scope} {ds rs : List D} {u : D} {own : List (Str × Nat)}
end
/-! what is done with one closure -/
section
variable {X Y : Cx} {ρ ρ' : Env} {e b : Expr} {i jw je : Nat} {x a en xc w : Str} {g : Addr} {k : Nat} {pg : Arguments} {bg : List Stmt} {sg scope bsc : Scope} {Ng : List Str} {ps : Arguments} {ws : List V} {c : Value} {xx : XV}
  {pins : List (Addr × Obj)} {σ : L2.St} {H : Hp} {s : Shared} {p1 p2 p3 p4 p5 p6 p7 np hp tp p pw pos : Pos} {b0 : Stmt} {suite : List Stmt} {j1 : Nat} {r : D} {C : Addr} {cl : List (Str × Addr)} {fp : List Addr}
end
/-! d.get(k) -/
end DL

namespace DL
open PySem PySem.Spec PyProof.Rows L2
/-! ### new objects of ours are let go behind an expression -/
section
variable {X : Cx} {ρ ρ0 ρ1 : Env} {e : Expr} {p : Bool} {d : D}
theorem step_take {K : PySem.W.Frag} {fr : Fr} {σ : L2.St} {S S' H : Hp} {ad ad' : List Addr} {n : Nat} (R : Rel K fr ρ σ S H ad) (st : Step S ad S' ad') (hn : ρ.ow.length ≤ n) : Step S ad S' (ad'.take n) := by
  obtain ⟨s, more, rfl⟩ := st
  refine ⟨s, more.take (n - ad.length), ?_⟩
  rw [List.take_append, List.take_of_length_le (by rw [R.al]; exact hn)]
theorem TD.drop (h : TD X ρ e p ρ1) (w : Wk ρ1 ρ0) (hl : LocOk ρ0) (hn : ρ.ow.length ≤ ρ0.ow.length) : TD X ρ e p ρ0 :=
  td_of h fun σ H Q ⟨fr, S, ad, R, k⟩ => ⟨fr, S, ad, R, fun S' H' ad' st R' => k S' H' _ (step_take R st hn) (R'.wk w hl)⟩
theorem ED.drop (h : ED X ρ e (.d d) ρ1) (w : Wk ρ1 ρ0) (hl : LocOk ρ0) (hn : ρ.ow.length ≤ ρ0.ow.length) : ED X ρ e (.d d) ρ0 :=
  ed_of h fun σ H Q ⟨fr, S, ad, R, k⟩ => ⟨fr, S, ad, R, fun S' H' ad' v st R' rv => k S' H' _ v (step_take R st hn) (R'.wk w hl) (.d rv.dd)⟩
theorem TW.drop (h : TW X ρ e p ρ1) (w : Wk ρ1 ρ0) (hl : LocOk ρ0) (hn : ρ.ow.length ≤ ρ0.ow.length) : TW X ρ e p ρ0 :=
  tw_of h fun σ H Q ⟨fr, S, ad, R, k⟩ => ⟨fr, S, ad, R, fun S' H' ad' st R' => k S' H' _ (step_take R st hn) (R'.wk w hl)⟩
end
/-! ### a class method with *rest that gives a new object -/
section
variable {P : Program} {w : World} {K : PySem.W.Frag} {mg : Str → Option Value} {base : Heap} {x qual : Str} {params : Arguments} {body : List Stmt} {scope : Scope} {f : Addr} {fd : FuncData} {N : List Str} {j : Nat} {R : OSpec} {p1 p2 pv : Str}
end
end DL

namespace DL
open PySem PySem.Spec PyProof.Rows L2
/-! ### a, b = a list -/
section
variable {X : Cx} {ρ ρ1 : Env} {es : List Expr} {pos : Pos}
end
end DL

namespace DL
open PySem PySem.Spec PyProof.Rows L2
/-! ### one and the same data, bools within, is equal -/
section
variable {X : Cx} {ρ ρ1 ρ2 : Env} {a b : Expr} {pos : Pos} {p : Bool} {d d' : D}
end
end DL

namespace DL
open PySem PySem.Spec PyProof.Rows L2
/-! ### abs -/
section
variable {X : Cx} {ρ : Env} {d w : D}
/-! sum of a list of ints -/
end
end DL

namespace DL
open PySem PySem.Spec PyProof.Rows L2
section
variable {X : Cx} {ρ ρ1 ρ2 ρ3 : Env} {e a b : Expr} {st : Stmt} {r : List Stmt} {k : Kn} {pos apos cpos tpos : Pos} {d d' w : D} {ds es : List D} {xs : List VD}
/-! ### i *= j, i //= j, o.f += e -/
/-! ### xs.extend(e), both of ours -/
/-! ### bytes -/
end
end DL

namespace DL
open PySem PySem.Spec PyProof.Rows L2
/-! ### texts -/
section
variable {X : Cx} {ρ ρ1 ρ2 ρ3 : Env} {e a b : Expr} {es : List Expr} {pos apos : Pos} {d d' w : D} {ds : List D}
/-! text.split(sep), sep.join(texts) -/
/-! f-strings -/
inductive JD (X : Cx) : Env → List Expr → List D → Env → Prop
  | nil {ρ : Env} : JD X ρ [] [] ρ
  | cons {ρ ρ1 ρ2 : Env} {e : Expr} {es : List Expr} {d : D} {ds : List D} : ED X ρ e (.d d) ρ1 → JD X ρ1 es ds ρ2 → JD X ρ (e :: es) (d :: ds) ρ2
/-! int(text), len(text), text[i], c in text -/
/-! for c in text -/
end
end DL

namespace DL
open PySem PySem.Spec PyProof.Rows L2
section
variable {X : Cx} {ρ ρ1 : Env} {d w : D}
/-! ### list of a dict's keys -/
end
end DL

namespace DL
open PySem PySem.Spec PyProof.Rows L2
section
open PySem.Builtin PySem.Builtin.Float
/-! ### {i:>2}, {i:>13,}, {text:>3} -/
section
variable {M : Model} {A : Around} {E : Value → Shared → Prop} {s : Shared} {X T : PySem.Str}
end
end
section
variable {X : Cx} {ρ ρ1 ρ2 ρ3 : Env} {e a b c : Expr} {pos apos : Pos} {d d' u w : D}
/-! str(n) -/
/-! texts put together, repeated, cut -/
/-! "0" <= c <= "9" -/
end
end DL

namespace DL
open PySem PySem.Spec PyProof.Rows L2
section
variable {X : Cx} {E : XK} {ρ ρ1 ρ2 : Env} {a e e1 e2 : Expr} {es : List Expr} {r : List Stmt} {n m f g : Str} {C fI : Addr} {x : XV} {p pp p2 pos pos' : Pos} {P N : Env → Prop} {i j : Int}
/-! ### raising within e.f and b(e) -/
/-! ### exceptions with two whole numbers -/
def spI2 (K : PySem.W.Frag) (f g : Str) : Sp := fun vs H Q _ => ∃ (a C : Addr) (i j : Int), vs = [.ref a, .int i, .int j] ∧ i.natAbs < 10 ^ 64 ∧ j.natAbs < 10 ^ 64 ∧ OexC K C ∧ PySem.W.findIn K (.ref C) f = some none ∧ PySem.W.findIn K (.ref C) g = some none ∧ H a = some (exo a C none) ∧
  ∀ dx, H dx = none → dx ≠ a → Q .non (upd (upd (upd H dx (exd dx [(f, .int i)])) a (exo a C (some dx))) dx (exd dx [(g, .int j), (f, .int i)]))
structure XC2 (P : Program) (w : World) (K : PySem.W.Frag) (mg : Str → Option Value) (base : Heap) (A : Around) (C : Addr) (f g : Str) : Prop where
  T : OexC K C
  no : PySem.W.findIn K (.ref C) f = some none
  no2 : PySem.W.findIn K (.ref C) g = some none
  ex : ∃ fI k fd ps, PySem.W.findIn K (.ref C) "__init__" = some (some (.ref fI)) ∧ PySem.W.typeIn K (.ref fI) = some (.type "function") ∧ FnOk P w K mg base CX0 k fI fd ps (spI2 K f g) ∧ Room (k + 1) A ∧ Binds K fd ps []
end
section
variable {P : Program} {w : World} {K : PySem.W.Frag} {mg : Str → Option Value} {base : Heap} {qual sn an bn f g : Str} {params : Arguments} {scope : Scope} {fI : Addr} {fd : FuncData} {J : Expr} {p1 p2 p3 p4 p5 p6 p7 p8 p9 pa pb pc pd : Pos} {k : Nat}
end
/-! ### a comprehension that gives a list of ours -/
section
variable {K : PySem.W.Frag} {fr : Fr} {ρ : Env} {σ : L2.St} {S H : Hp} {ad : List Addr} {p : Addr}
end
section
variable {X : Cx} {ρ ρ1 : Env} {tg iter elt : Expr} {ifs : List Expr} {pos : Pos} {ds : List D} {f : D → Option (Option D)} {out : List D} {gv : List Nat} {scope : Scope} {own : List (Str × Nat)}
end
end DL

namespace DL
open PySem PySem.Spec PyProof.Rows L2
/-! ### a comprehension over two rows -/
section
variable {X : Cx} {ρ ρ1 ρ2 : Env} {a b : Expr} {C : Addr} {R : FSpec} {ns : List Str} {ds : List D} {d w : D} {p : Bool} {pos : Pos}
end
end DL

namespace DL
open PySem PySem.Spec PyProof.Rows L2
section
variable {X : Cx} {E : XK} {ρ ρ1 : Env} {a b : Expr} {r : List Stmt} {x : XV} {pos : Pos} {P N : Env → Prop}
end
end DL

namespace DL
open PySem PySem.Spec PyProof.Rows L2
section
variable {X : Cx} {ρ ρ1 ρ2 : Env} {a b : Expr} {d d' : D} {p : Bool} {pos : Pos}
/-! ### bytes compared -/
end
end DL

namespace DL
open PySem PySem.Spec PyProof.Rows L2 LamX
/-! ### a while loop whose turns may raise -/
section
variable {X : Cx} {E : XK} {ρ ρ' ρ0 ρ1 ρ2 ρ3 : Env} {e a b c tg iter elt : Expr} {pos : Pos} {p q : Bool} {r body : List Stmt} {x : XV} {P N : Env → Prop}
end
end DL

namespace DL
open PySem PySem.Spec PyProof.Rows L2 LamX
section
variable {X : Cx} {E : XK} {ρ ρ' ρ0 ρ1 ρ2 ρ3 : Env} {e a b c fe tg iter : Expr} {es : List Expr} {v y z : VD} {xs ys : List VD} {pos apos cpos pp : Pos} {r body : List Stmt} {n m : Str} {R : XSpec} {x : XV} {C : Addr} {nms : List Str} {fxs : List VD} {os os' : List OD} {ns : List Nat} {o : Nat} {P N : Env → Prop}
end
end DL

namespace DL
open PySem PySem.Spec PyProof.Rows L2 LamX
section
variable {X : Cx} {E : XK} {ρ ρ' ρ0 ρ1 ρ2 ρ3 : Env} {e a b c fe : Expr} {es : List Expr} {v y z : VD} {xs ys : List VD} {pos apos cpos pp spos : Pos} {n m : Str} {R : XSpec} {x : XV} {C : Addr} {nms : List Str} {fxs : List VD} {os os' : List OD} {ns : List Nat} {o : Nat} {u d : D} {ds : List D}
/-- a method that is bound, too, and raises -/
structure XBs (P : Program) (w : World) (K : PySem.W.Frag) (mg : Str → Option Value) (base : Heap) (A : Around) (C : Addr) (m : Str) (R : XSpec) : Prop where
  cl : Cls K C
  ex : ∃ f j, FnR P w K mg base (L2.CX P w) j f (spX K R) ∧ Room j A ∧ BMeth K C m f
end
end DL

namespace DL
open PySem PySem.Spec PyProof.Rows L2 LamX
/-! ### raising with the slots in sight (for try/finally) -/
section
variable {X : Cx} {E : XK} {W : WX} {ρ ρ' ρ0 ρ1 ρ2 ρ3 : Env} {e a b c tg iter elt : Expr} {es : List Expr} {pos apos cpos pp : Pos} {st f₀ : Stmt} {r body fs : List Stmt} {x : XV} {P P1 N : Env → Prop} {vs : List Nat} {ds : List D} {o : Nat} {xs ys : List VD} {nms : List Str} {fxs : List VD} {os os' : List OD} {ns : List Nat} {m : Str} {C : Addr} {R : XSpec}
theorem IsX.ex {K : PySem.W.Frag} {S S' H H' : Hp} {cls : Value} {d : Option Addr} (h : IsX K S H cls d x) (e : Ex S S') : IsX K S' H' cls d x := by
  obtain ⟨h1, h2⟩ := h
  refine ⟨h1, ?_⟩
  rcases h2 with h2 | ⟨dx, vs, a1, a2, a3, a4⟩
  · exact .inl h2
  · exact .inr ⟨dx, vs, a1, a2, e _ _ a3, a4.mono e⟩
end
end DL

namespace DL
open PySem PySem.Spec PyProof.Rows L2 LamX
section
variable {X : Cx} {E : XK} {W : WX} {ρ ρ' ρ0 ρ1 ρ2 ρ3 : Env} {e a b c tg iter elt : Expr} {es : List Expr} {pos apos cpos pp spos : Pos} {st f₀ : Stmt} {r body fs : List Stmt} {x : XV} {P P1 N : Env → Prop} {vs : List Nat} {ds : List D} {o : Nat} {xs ys : List VD} {nms : List Str} {fxs : List VD} {os os' : List OD} {ns : List Nat} {m : Str} {C : Addr} {R : XSpec} {u d : D}
end
end DL

/-! ### an exception that leaves a list comprehension -/
namespace LX
open PySem PySem.Spec PyProof.Rows L2 HandSPX
section
variable {M : Model} {A : Around} {E : Value → Shared → Prop} {s : Shared} {Z : Obj → Prop} {gd : Heap} {me : PySem.Env} {up l : List PySem.Env} {hm L x : Addr}
end
section
variable {X : Cx} {pins : List (Addr × Obj)} {σ : L2.St} {H3 : Hp} {s3 : Shared} {scope : Scope} {ce : PySem.Env} {fp : List Addr} {E : XK}
end
section
variable {X : Cx} {elt tg iter : Expr} {scope : Scope} {own : List (Str × Nat)} {pos : Pos} {wi : TI} {g : TG} {te : TE} {E : XK}
end
end LX
namespace DL
open PySem PySem.Spec PyProof.Rows L2
section
variable {X : Cx} {E : XK} {ρ ρ1 : Env} {tg elt iter : Expr} {scope : Scope} {pos : Pos} {gv : List Nat} {own : List (Str × Nat)} {ds : List D} {d w : D} {l : List (Nat × D)} {x : XV} {sl : List (Option VD)} {vs : List Nat}
end
end DL
namespace DL
open PySem PySem.Spec PyProof.Rows L2
end DL
namespace DL
open PySem PySem.Spec PyProof.Rows L2
end DL

/-! ### generators that raise -/
namespace GX
open PySem PySem.Spec PyProof.Rows L2 GenW
open DL (Ex Rel Rp RpAll Rv RvAll D VD OD OR KnOk Kn SD SDs ED AD TD GD ItD tS tE tA tT tG tI Grow Step env0 AllD Wk LocOk TG Fl bnd ct cf sm)
section
variable {X : Cx} {pins : List (Addr × Obj)} {σ : L2.St} {H H1 H2 S S1 S2 S' H' : Hp} {s s0 s1 s2 s3 s' : Shared} {fr : DL.Fr} {ad ad1 ad2 : List Addr} {ρ ρ1 ρ2 : DEnv} {outs ds : List D} {done : Dn} {E : Value → Shared → Prop} {A : Around} {N : List Str} {qual : Str} {scope : Scope} {f a : Addr} {cd : Value} {go : Obj} {L g i : Nat} {ip : List (Addr × Obj)} {Φ : Fm}
variable {tg iter : Expr} {body r : List Stmt} {k : Kn} {pos : Pos}
theorem sx_forG {x0 : DL.XV} {E : XK} {P N : DEnv → Prop} {vs : List Nat} (tk : DL.Lets X E) (hp : PassesOwn (model X.prog X.w) X.A X.env X.xe) (hns : PySem.W.subIn X.K (.ref x0.cls) (.type "StopIteration") = some false) (hge : GE X ρ iter outs (.ex x0) ρ1) (hc : X.calm = true) (W : Nat → DEnv → Prop) (h0 : W 0 ρ1)
    (hs : ∀ i d ρ, outs[i]? = some d → W i ρ → ∃ ρ', GD X.nox vs ρ tg (.d d) ρ' ∧ SDs X.nox ρ' body { nx := fun ρ' => AliveO ρ'.ow ∧ W (i + 1) ρ', ct := fun ρ' => AliveO ρ'.ow ∧ W (i + 1) ρ', bk := fun _ => False, rt := fun _ _ => False })
    (hd : ∀ ρ, W outs.length ρ → P ρ) (hfs : ∀ x, foldedSetIterable iter X.env x = pure x := by intro _; rfl) : DL.SXs X E ρ (.For tg iter body [] pos :: r) x0 P N := by
  refine DL.sx_end ⟨fun pins s σ H De I ⟨fr, S, ad, R, kk, _⟩ => ?_⟩
  refine wpAny_For (thn (hge pins s σ H fr S ad I R) fun u s1 h1 => ?_) hfs
  obtain ⟨S1, H1, ad1, sc, kr, Ic, st1, R1, os1, b1, kp1, room, mk⟩ := h1
  have I1 : Inv X pins σ H1 s1 := Ic.call' (ch := []) os1 (Un.kept kp1) (Ic.hok.kept kp1) b1 fun b z => by simp at z
  have IcY : Inv X.nox pins σ H1 sc := Ic.wish _
  have oldX : Old X pins sc.heap.objs.size := old_of Ic
  obtain ⟨a, g, go, N, qual, scope, f, cd, rfl, hgen, hg1, slp⟩ := slp_new Ic room mk fun _ _ _ => trivial
  have hfr : X.A.frames = some X.stack := I.ok.frames
  have rin : Room kr X.A.in1 := (room.mono (by omega : kr + 1 ≤ kr + 4)).in1
  have Z0 := slp X.A.in1 rin hfr
  have old : Old X.nox pins sc.heap.objs.size := old_of IcY
  obtain ⟨go', nm, qn, hgo, gcl, gdt, _⟩ := id hg1
  refine wpAny_pyIter_gen hg1 ?_
  refine codeAny_forLoop_any (fun n s' => ∃ (i : Nat) (σ' : L2.St) (S' H' : Hp) (ad' : List Addr) (ρ' : DEnv) (ip : List (Addr × Obj)), n = outs.length + 1 - i ∧ i ≤ outs.length ∧ W i ρ' ∧ Inv X.nox pins σ' H' s' ∧ Rel X.K fr ρ' σ' S' H' ad' ∧
    Slp (fmX X X.A.in1 N qual scope f cd a go sc.heap.objs.size (Dn.E X.K outs.length (.ex x0))) a g go outs (.ex x0) i ip S' H' s') ?_ (outs.length + 1) ⟨0, σ, S1, H1, ad1, ρ1, [], rfl, Nat.zero_le _, h0, I1.wish _, R1, Z0⟩
  rintro n s2 ⟨i, σ2, S2, H2, ad2, ρ2, ip, rfl, hle, hW, I2, R2, Z2⟩
  have hi : i < outs.length ∨ (Dn.ex x0 ≠ .no ∧ i = outs.length) := by
    rcases Nat.lt_or_ge i outs.length with z | z
    · exact .inl z
    · have e : i = outs.length := by omega
      exact .inr ⟨fun z => (nomatch z), e⟩
  refine Slp.next (X := X.nox) (I.ok.hd hc) (by have := room.dp; omega) hfr hgen I2 R2.grow.sh old Z2 hi (fun v x d s3 S3 H3 ip3 rv hdd rp gr I3 Z3 => ?_) (fun hdn hil s3 S3 H3 gr I3 => nomatch hdn) fun x hdn hil e s1 cx => ?_
  · have R3 := Rel.ran R2 gr
    obtain ⟨ρ', hgd, hbd⟩ := hs i d ρ2 hdd hW
    have Z3' := Z3
    obtain ⟨gs, ys, ssl, Sz, hys, hgs, hsus, hao, ez, own, rsm⟩ := Z3'
    have hn : ∀ b, (fmX X X.A.in1 N qual scope f cd a go sc.heap.objs.size (Dn.E X.K outs.length (.ex x0))).Own ip3 b → H3 b = none := fun b hb => (own b hb).2.choose_spec.2.2
    have hx : ∀ b, (fmX X X.A.in1 N qual scope f cd a go sc.heap.objs.size (Dn.E X.K outs.length (.ex x0))).Own ip3 b → ∃ o, s3.heap.get? b = some o := fun b hb => ⟨_, (own b hb).2.choose_spec.2.1⟩
    have R4 := Rel.hold (h := s3.heap) R3 hn
    have I4 := inv_addO I3 old hn fun b hb => (own b hb).1
    obtain ⟨go2, _, _, hgo2, gcl2, gdt2, _⟩ := hgen _ hao
    refine go_of hgo2 gcl2 gdt2 (by decide) ?_
    refine wpAny_mono (wpAny_asleep I4.bare fun G hG => hgd.run pins (Sw s3 G) σ2 _ x v (fun σ' H' => ∃ S' ad', Rel X.K (frO fr ρ2 ad2 _ s3.heap S3 H3) ρ' σ' S' H' ad') (inv_gens I4 hG) rv ⟨_, _, _, R4, .d rp, fun σ' S' H' ad' _ R' _ _ => ⟨S', ad', R'⟩⟩) (fun _ s4 h4 => ?_) fun e s4 ⟨_, z, _⟩ => z.elim
    obtain ⟨G, ⟨σ4, H4, I5, S4, ad4, R5⟩, hbG, asl1⟩ := h4
    have I5a : Inv X.nox pins σ4 H4 { Sw s4 G with gens := s4.gens } := inv_gens I5 (hbG I5.bare)
    have I5' : Inv X.nox pins σ4 H4 s4 := I5a
    let F := frO fr ρ2 ad2 ((fmX X X.A.in1 N qual scope f cd a go sc.heap.objs.size (Dn.E X.K outs.length (.ex x0))).Own ip3) s3.heap S3 H3
    let Dn' : Ends := { nx := (fun σ H => ∃ ρ S ad, (AliveO ρ.ow ∧ W (i + 1) ρ) ∧ Rel X.K F ρ σ S H ad), ct := (fun σ H => ∃ ρ S ad, (AliveO ρ.ow ∧ W (i + 1) ρ) ∧ Rel X.K F ρ σ S H ad), bk := (fun _ _ => False), rt := (fun _ _ => False) }
    refine wpAny_mono (wpAny_asleep I5'.bare fun G hG => hbd.run pins (Sw s4 G) σ4 H4 Dn' (inv_gens I5' hG)
        ⟨_, S4, ad4, R5, fun ρ σ S H ad hk R => ⟨ρ, S, ad, hk, R⟩, fun _ _ _ _ _ _ _ z => z.elim, fun _ _ _ _ _ z => z.elim, fun ρ σ S H ad hk R => ⟨ρ, S, ad, hk, R⟩, fun _ _ _ _ _ _ _ z => z.elim⟩) (fun fl s6 h6 => ?_) fun e s6 ⟨_, z, _⟩ => z.elim
    obtain ⟨G6, sp, hbG6, asl2⟩ := h6
    have asl : Asleep s3.gens s6.gens := fun j y e hsu => asl2 j y (asl1 j y e hsu) hsu
    -- the generator's own things are let go
    have back : ∀ {ρ6 : DEnv} {σ6 σ6' : L2.St} {S6 H6 : Hp} {ad6 : List Addr}, Inv X.nox pins σ6 H6 (Sw s6 G6) → AliveO ρ6.ow → Rel X.K F ρ6 σ6' S6 H6 ad6 →
        ∃ H7, Inv X.nox pins σ6 H7 s6 ∧ Rel X.K fr ρ6 σ6' S6 H7 ad6 ∧ S6 = S6 ∧ Slp (fmX X X.A.in1 N qual scope f cd a go sc.heap.objs.size (Dn.E X.K outs.length (.ex x0))) a g go outs (.ex x0) (i + 1) ip3 S6 H7 s6 := fun {ρ6 σ6 σ6' S6 H6 ad6} I6 al R6 => by
      have I6a : Inv X.nox pins σ6 H6 { Sw s6 G6 with gens := s6.gens } := inv_gens I6 (hbG6 I6.bare)
      have I6' : Inv X.nox pins σ6 H6 s6 := I6a
      obtain ⟨R7, e7, pb⟩ := Rel.unhold R3 hn hx R6 al
      refine ⟨_, inv_dropO I6' fun b u hb e => ?_, R7, rfl, Slp.kept rfl Z3 (Nat.succ_pos _) asl e7 I6'.hok pb⟩
      obtain ⟨o, q⟩ := hx b hb
      rw [pb b hb o q] at e
      cases e
      exact ⟨_, rfl⟩
    have again : (∃ σ6 H6, Inv X.nox pins σ6 H6 (Sw s6 G6) ∧ ∃ ρ S ad, (AliveO ρ.ow ∧ W (i + 1) ρ) ∧ Rel X.K F ρ σ6 S H6 ad) → ∃ m, m < outs.length + 1 - i ∧ ∃ (i : Nat) (σ' : L2.St) (S' H' : Hp) (ad' : List Addr) (ρ' : DEnv) (ip : List (Addr × Obj)), m = outs.length + 1 - i ∧ i ≤ outs.length ∧ W i ρ' ∧ Inv X.nox pins σ' H' s6 ∧ Rel X.K fr ρ' σ' S' H' ad' ∧
        Slp (fmX X X.A.in1 N qual scope f cd a go sc.heap.objs.size (Dn.E X.K outs.length (.ex x0))) a g go outs (.ex x0) i ip S' H' s6 := fun ⟨σ6, H6, I6, ρ6, S6, ad6, ⟨al, w6⟩, R6⟩ => by
      obtain ⟨H7, I7, R7, _, Z7⟩ := back I6 al R6
      have hlt : i < outs.length := (List.getElem?_eq_some_iff.mp hdd).1
      exact ⟨outs.length + 1 - (i + 1), by omega, i + 1, σ6, S6, H7, ad6, ρ6, ip3, rfl, hlt, w6, I7, R7, Z7⟩
    cases fl with
    | next => obtain ⟨σ6, H6, I6, q⟩ := sp; exact again ⟨σ6, H6, I6, q⟩
    | cont => obtain ⟨σ6, H6, I6, q⟩ := sp; exact again ⟨σ6, H6, I6, q⟩
    | brk => obtain ⟨_, _, _, q⟩ := sp; exact False.elim q
    | ret u => obtain ⟨_, _, _, _, _, q⟩ := sp; exact False.elim q
  · cases hdn
    have IX : Inv X pins σ2 H2 s2 := I2.unwish
    have cx2 := cx
    obtain ⟨a', B', H', cls', d', hu, fl, hok', ub, na, os', ag, hW'⟩ := cx2
    have kin : X.K.In s1.heap := I.ok.mod.kin.keeps fun b o e => by
      obtain ⟨q1, q2⟩ := IX.bs b o e
      have lt0 : b < X.s_0.heap.objs.size := Heap.lt_size (I.ok.bs b o e).1
      have lt : b < sc.heap.objs.size := Nat.lt_of_lt_of_le lt0 oldX.s0
      refine fl.1 b o (ub.keep b o ((cut_get lt).trans q1) ((cutH_lt lt).trans q2) fun hm => ?_)
      rcases List.mem_cons.mp (IX.stkSub b hm) with z | z
      · exact absurd (Nat.lt_of_lt_of_le lt0 I.ok.above) (by rw [z]; exact Nat.lt_irrefl _)
      · exact I.ok.nofr e z
    have cx3 : CX X.prog X.w X.stack (cutH sc.heap.objs.size H2) { s2.setGen g .running with heap := cut sc.heap.objs.size s2.heap } (fun cls d H' => ∃ S', Grow [] S2 H2 S' H' ∧ DL.IsX X.K S' H' cls d x0) e s1 := cx
    refine ⟨notStop_of (fun cls d H' ⟨S', _, ix⟩ => by rw [ix.1]; exact hns) kin cx, hp _ _ (tk _ _ (of_piece (W := fun cls d _ H => E cls d H) (sw := { s2.setGen g .running with heap := cut sc.heap.objs.size s2.heap }) (s2 := s1) (s3 := s1.setGen g .finished) IX oldX rfl rfl (fun cls d H' ⟨S', gr, ix⟩ => ⟨fun b o e => gr.h b o e (by simp), ?_⟩) cx3 rfl rfl (allBare_setGen ag rfl)))⟩
    subst hil
    exact kk ρ2 σ2 S' H' ad2 cls d (hd ρ2 hW) (Rel.ran R2 gr) ix
end
end GX
namespace GX
open PySem PySem.Spec PyProof.Rows L2 GenW
open DL (Rel D ED XV XN SXs Lets tSX)
section
variable {Φ : Fm} {st : Stmt} {r : List Stmt} {o l outs : List D} {ρ : DEnv} {k : Kg} {j : Nat} {τ : Type} {φ : τ → Dn} {done t : τ} {x : XV} {P : DEnv → Prop}
theorem room_Z {i : Nat} {s₀ : Shared} {S₀ H₀ : Hp} (h : Room j (Φ.A.deeper Φ.e0)) : Room j (Φ.Z i s₀ S₀ H₀).A := ⟨h.hd, h.dp, h.un⟩
/-- what ends a generator that raises -/
def exF (G : Str → Addr) (x : XN) : Dn := .ex (x.xv G)
/-- a statement that raises, in a generator's body -/
theorem gds_raiseM (hrm : Room j (Φ.A.deeper Φ.e0)) (h : (some ([], t) : GRo τ) = some (l, done)) (rem : Rem outs o l) (hx : φ t = .ex x) (hE : Φ.E = (φ done).E Φ.K outs.length)
    (hs : ∀ i s₀ S₀ H₀, Room j (Φ.Z i s₀ S₀ H₀).A → Lets (Φ.Z i s₀ S₀ H₀) (Φ.E i S₀ H₀) → SXs (Φ.Z i s₀ S₀ H₀) (Φ.E i S₀ H₀) ρ (st :: r) x P (fun _ => False)) : GDs Φ (Br Φ.K outs (φ done)) o ρ (st :: r) k := by
  cases h
  refine GSs.imp (gss_plX (t := fun i S₀ H₀ => tSX Φ.K ρ x P (fun _ => False) (Φ.E i S₀ H₀)) fun i s₀ S₀ H₀ _ => hs i s₀ S₀ H₀ (room_Z hrm) takes_gcx) fun De S₀ H₀ ys σ H ⟨Sb, S, eb, ho, R, kk⟩ => ?_
  refine ⟨⟨[], S₀, H₀⟩, S, [], R, fun ρ' σ' S' H' ad' cls d _ R' ix => ?_, fun _ _ _ _ _ z => z.elim⟩
  rw [hE, hx]
  have hl := rem.len
  exact ⟨by rw [← ho]; simpa using hl, S', R'.grow, ix⟩
end
theorem pn0_wk {n : Nat} {os' : List DL.OD} {ρ ρ0 : DL.Env} (w : DL.Wk ρ ρ0) (h : DL.pn0 n os' ρ0) (hn : Nat.ble n ρ0.ow.length = true) : DL.pn0 n os' ρ := by
  obtain ⟨ext, e⟩ := w.ow
  unfold DL.pn0 at h ⊢
  rw [e, List.take_append_of_le_length (Nat.le_of_ble_eq_true hn)]
  exact h
/-- for x in g, where g raises: what the turns make of what it hands out -/
theorem sx_forHX {X : Cx} {E : XK} {ρ ρ1 : DEnv} {body r : List Stmt} {pos : Pos} {tg iter : Expr} {outs : List D} {x0 : XV} {P N : DEnv → Prop} {σ : Type} {vs : List Nat} (C : σ → DEnv) (hL : ∀ s, DL.LocOk (C s)) (f : D → σ → Option σ) {s0 s1 : σ} (tk : Lets X E) (hp : PassesOwn (model X.prog X.w) X.A X.env X.xe)
    (hns : PySem.W.subIn X.K (.ref x0.cls) (.type "StopIteration") = some false) (hge : GE X ρ iter outs (.ex x0) ρ1) (hf : DL.forS f outs s0 = some s1) (h0 : DL.Wk ρ1 (C s0))
    (hs : ∀ d s s', f d s = some s' → ∃ l, DL.TG X.nox vs tg d l ∧ DL.SDs X.nox ((C s).puts l) body { nx := fun ρ' => AliveO ρ'.ow ∧ DL.Wk ρ' (C s'), ct := fun ρ' => AliveO ρ'.ow ∧ DL.Wk ρ' (C s'), bk := fun _ => False, rt := fun _ _ => False })
    (hd : ∀ ρ', DL.Wk ρ' (C s1) → P ρ') (hc : X.calm = true) (hfs : ∀ x, foldedSetIterable iter X.env x = pure x := by intro _; rfl) : SXs X E ρ (.For tg iter body [] pos :: r) x0 P N := by
  refine sx_forG (vs := vs) tk hp hns hge hc (fun i ρ => ∃ s, DL.Wk ρ (C s) ∧ DL.forS f (outs.drop i) s = some s1) ⟨s0, h0, hf⟩ ?_ ?_ hfs
  · rintro i d ρ hdd ⟨s, w, hF⟩
    have e : outs.drop i = d :: outs.drop (i + 1) := by
      obtain ⟨h1, h2⟩ := List.getElem?_eq_some_iff.mp hdd
      rw [List.drop_eq_getElem_cons h1, h2]
    rw [e] at hF
    obtain ⟨s', h1, h2⟩ := DL.bnd hF
    obtain ⟨l, tgd, hb⟩ := hs d s s' h1
    refine ⟨ρ.puts l, tgd ρ, DL.sds_wk w.puts (DL.LocOk.puts (hL s)) (hb.imp ?_ ?_ ?_ ?_)⟩
    · rintro ρ ⟨al, w'⟩
      exact ⟨al, s', w', h2⟩
    · rintro d ow z
      exact z.elim
    · rintro ρ z
      exact z.elim
    · rintro ρ ⟨al, w'⟩
      exact ⟨al, s', w', h2⟩
  · rintro ρ ⟨s, w, hF⟩
    rw [List.drop_length] at hF
    cases hF
    exact hd ρ w
end GX

namespace Pr
open PySem PySem.Spec PyProof.Rows L2 DL
/-- what the top has made, as the walk needs it -/
structure Tx (K : PySem.W.Frag) (mg : Str → Option Value) : Prop where
  f_len : mg "len" = none
  f_range : mg "range" = none
  f_sorted : mg "sorted" = none
  f_max : mg "max" = none
  f_int : mg "int" = none
  f_isinstance : mg "isinstance" = none
  f_enumerate : mg "enumerate" = none
  f_tuple : mg "tuple" = none
  f_list : mg "list" = none
  f_str : mg "str" = none
  f_bool : mg "bool" = none
  f_TypeError : mg "TypeError" = none
  f_ValueError : mg "ValueError" = none
  v_LEFT : ∃ t, mg "LEFT" = some (.str "left" t)
  v_RIGHT : ∃ t, mg "RIGHT" = some (.str "right" t)
  g_SIDES : mg "SIDES" = some (.ref (He.ga K "SIDES"))
  t_SIDES : ∀ H : Hp, SqT K H (He.ga K "SIDES") [.str "left", .str "right"]
  v_MAX_STONES_rows : ∃ t, mg "MAX_STONES_rows" = some (.int 40 t)
  v_MAX_PLACE : ∃ t, mg "MAX_PLACE" = some (.int 1000000000 t)
  v_MAX_HEIGHT : ∃ t, mg "MAX_HEIGHT" = some (.int 1000000000 t)
  d_AlreadyFallen_init : ∃ fd, FunD K "__init__" "AlreadyFallen.__init__" (defArgs s_AlreadyFallen_init) (defBody s_AlreadyFallen_init) (defScope s_AlreadyFallen_init) [] [] (He.ma K (He.ga K "AlreadyFallen") "__init__") fd
  d_is_integer : ∃ fd, FunD K "is_integer" "is_integer" (defArgs s_is_integer) (defBody s_is_integer) (defScope s_is_integer) [] [] (He.ga K "is_integer") fd
  g_is_integer : mg "is_integer" = some (.ref (He.ga K "is_integer"))
  d_is_stone : ∃ fd, FunD K "is_stone" "is_stone" (defArgs s_is_stone) (defBody s_is_stone) (defScope s_is_stone) [] [] (He.ga K "is_stone") fd
  g_is_stone : mg "is_stone" = some (.ref (He.ga K "is_stone"))
  d_check_side : ∃ fd, FunD K "check_side" "check_side" (defArgs s_check_side) (defBody s_check_side) (defScope s_check_side) [] [] (He.ga K "check_side") fd
  g_check_side : mg "check_side" = some (.ref (He.ga K "check_side"))
  d_Row_init : ∃ fd, FunD K "__init__" "Row.__init__" (defArgs s_Row_init) (defBody s_Row_init) (defScope s_Row_init) [] [] (He.ma K (He.ga K "Row") "__init__") fd
  m_Row_init : Meth K (He.ga K "Row") "__init__" (He.ma K (He.ga K "Row") "__init__")
  d_Row_len : ∃ fd, FunD K "__len__" "Row.__len__" (defArgs s_Row_len) (defBody s_Row_len) (defScope s_Row_len) [] [] (He.ma K (He.ga K "Row") "__len__") fd
  m_Row_len : Meth K (He.ga K "Row") "__len__" (He.ma K (He.ga K "Row") "__len__")
  d_Row_check_stone : ∃ fd, FunD K "check_stone" "Row.check_stone" (defArgs s_Row_check_stone) (defBody s_Row_check_stone) (defScope s_Row_check_stone) [] [] (He.ma K (He.ga K "Row") "check_stone") fd
  m_Row_check_stone : Meth K (He.ga K "Row") "check_stone" (He.ma K (He.ga K "Row") "check_stone")
  d_Row_add : ∃ fd, FunD K "__add__" "Row.__add__" (defArgs s_Row_add) (defBody s_Row_add) (defScope s_Row_add) [] [] (He.ma K (He.ga K "Row") "__add__") fd
  m_Row_add : Meth K (He.ga K "Row") "__add__" (He.ma K (He.ga K "Row") "__add__")
  d_row_of : ∃ fd, FunD K "row_of" "row_of" (defArgs s_row_of) (defBody s_row_of) (defScope s_row_of) [] [] (He.ga K "row_of") fd
  g_row_of : mg "row_of" = some (.ref (He.ga K "row_of"))
  d_mirrored : ∃ fd, FunD K "mirrored" "mirrored" (defArgs s_mirrored) (defBody s_mirrored) (defScope s_mirrored) [] [] (He.ga K "mirrored") fd
  g_mirrored : mg "mirrored" = some (.ref (He.ga K "mirrored"))
  d_right_end : ∃ fd, FunD K "right_end" "right_end" (defArgs s_right_end) (defBody s_right_end) (defScope s_right_end) [] [] (He.ga K "right_end") fd
  g_right_end : mg "right_end" = some (.ref (He.ga K "right_end"))
  d_run_of : ∃ fd, FunD K "run_of" "run_of" (defArgs s_run_of) (defBody s_run_of) (defScope s_run_of) [] [] (He.ga K "run_of") fd
  g_run_of : mg "run_of" = some (.ref (He.ga K "run_of"))
  d_check_push : ∃ fd, FunD K "check_push" "check_push" (defArgs s_check_push) (defBody s_check_push) (defScope s_check_push) [] [] (He.ga K "check_push") fd
  g_check_push : mg "check_push" = some (.ref (He.ga K "check_push"))
  d_falls_by : ∃ fd, FunD K "falls_by" "falls_by" (defArgs s_falls_by) (defBody s_falls_by) (defScope s_falls_by) [] [] (He.ga K "falls_by") fd
  g_falls_by : mg "falls_by" = some (.ref (He.ga K "falls_by"))
  d_law_taken : ∃ fd, FunD K "_law_taken" "_law_taken" (defArgs s_law_taken) (defBody s_law_taken) (defScope s_law_taken) [] [] (He.ga K "_law_taken") fd
  g_law_taken : mg "_law_taken" = some (.ref (He.ga K "_law_taken"))
  d_law_alike : ∃ fd, FunD K "_law_alike" "_law_alike" (defArgs s_law_alike) (defBody s_law_alike) (defScope s_law_alike) [] [] (He.ga K "_law_alike") fd
  g_law_alike : mg "_law_alike" = some (.ref (He.ga K "_law_alike"))
  d_law_raised : ∃ fd, FunD K "_law_raised" "_law_raised" (defArgs s_law_raised) (defBody s_law_raised) (defScope s_law_raised) [] [] (He.ga K "_law_raised") fd
  g_law_raised : mg "_law_raised" = some (.ref (He.ga K "_law_raised"))
  d_law_stones : ∃ fd, FunD K "_law_stones" "_law_stones" (defArgs s_law_stones) (defBody s_law_stones) (defScope s_law_stones) [] [] (He.ga K "_law_stones") fd
  g_law_stones : mg "_law_stones" = some (.ref (He.ga K "_law_stones"))
  d_law_row : ∃ fd, FunD K "_law_row" "_law_row" (defArgs s_law_row) (defBody s_law_row) (defScope s_law_row) [] [] (He.ga K "_law_row") fd
  g_law_row : mg "_law_row" = some (.ref (He.ga K "_law_row"))
  d_law_fallen : ∃ fd, FunD K "_law_fallen" "_law_fallen" (defArgs s_law_fallen) (defBody s_law_fallen) (defScope s_law_fallen) [] [] (He.ga K "_law_fallen") fd
  g_law_fallen : mg "_law_fallen" = some (.ref (He.ga K "_law_fallen"))
  d_law_played : ∃ fd, FunD K "_law_played" "_law_played" (defArgs s_law_played) (defBody s_law_played) (defScope s_law_played) [] [] (He.ga K "_law_played") fd
  g_law_played : mg "_law_played" = some (.ref (He.ga K "_law_played"))
  d_law : ∃ fd, FunD K "law" "law" (defArgs s_law) (defBody s_law) (defScope s_law) [] [] (He.ga K "law") fd
  g_law : mg "law" = some (.ref (He.ga K "law"))
  g_StoneError : mg "StoneError" = some (.ref (He.ga K "StoneError"))
  g_InvalidRow : mg "InvalidRow" = some (.ref (He.ga K "InvalidRow"))
  g_UnknownStone : mg "UnknownStone" = some (.ref (He.ga K "UnknownStone"))
  g_InvalidSide : mg "InvalidSide" = some (.ref (He.ga K "InvalidSide"))
  g_InvalidNumber : mg "InvalidNumber" = some (.ref (He.ga K "InvalidNumber"))
  g_AlreadyFallen : mg "AlreadyFallen" = some (.ref (He.ga K "AlreadyFallen"))
  g_OtherRow : mg "OtherRow" = some (.ref (He.ga K "OtherRow"))
  g_Row : mg "Row" = some (.ref (He.ga K "Row"))
  c_Row : Cls K (He.ga K "Row")
  mk_Row : Mk K (He.ga K "Row") (He.ma K (He.ga K "Row") "__init__")
  sf_Row : PySem.W.selfFirst K (He.ga K "Row") = true
  ne_Row : neOk K (He.ga K "Row") = true
  is_Row : isOk K (He.ga K "Row") = true
  sh_Row : shOk K (He.ga K "Row") "rshift" = true
  na_Row_blocks : NoAttr K (He.ga K "Row") "blocks"
  ixs : ∀ a ∈ xcL, isXB K (He.ga K a) = true
  ems : ∀ a ∈ xcL, PySem.W.exmOne K (.ref (He.ga K a)) (.ref (He.ga K "StoneError")) = some true
  nsi : ∀ a ∈ xcL, PySem.W.subIn K (.ref (He.ga K a)) (.type "StopIteration") = some false
  kis : ∀ p ∈ kiL, PySem.W.kitOne K (.ref (He.ga K p.1)) (.ref (He.ga K p.2.1)) = some p.2.2
  kvs : ∀ a ∈ xcL, PySem.W.kitOne K (.ref (He.ga K a)) (.type "ValueError") = some true
  nofs : ∀ a ∈ xcL, ∀ f ∈ xfL, PySem.W.findIn K (.ref (He.ga K a)) f = some none
  bcx : baseB K (He.ga K "StoneError") = true
  xc_UnknownStone : XC0 K (He.ga K "UnknownStone")
  xc_InvalidSide : XC0 K (He.ga K "InvalidSide")
  ox_AlreadyFallen : OexC K (He.ga K "AlreadyFallen")
  in_AlreadyFallen : PySem.W.findIn K (.ref (He.ga K "AlreadyFallen")) "__init__" = some (some (.ref (He.ma K (He.ga K "AlreadyFallen") "__init__")))
  it_AlreadyFallen : PySem.W.typeIn K (.ref (He.ma K (He.ga K "AlreadyFallen") "__init__")) = some (.type "function")
  tbs : ∀ g ∈ ltL, tabB K (He.ga K g) = true
  tbn : (ltL.map fun g => tabA K (He.ga K g)).Nodup
theorem hTx {K : PySem.W.Frag} {h : Heap} {mg : Str → Option Value} (X : K.In h) (G : h.Ns mainGlobals mg) (c : HK.SaysM hfa hfn K) : Tx K mg where
  f_len := He.free_ok X G (c.fact 0 (f := (fun K => (He.Fa.free "len").ok K)) rfl)
  f_range := He.free_ok X G (c.fact 1 (f := (fun K => (He.Fa.free "range").ok K)) rfl)
  f_sorted := He.free_ok X G (c.fact 2 (f := (fun K => (He.Fa.free "sorted").ok K)) rfl)
  f_max := He.free_ok X G (c.fact 3 (f := (fun K => (He.Fa.free "max").ok K)) rfl)
  f_int := He.free_ok X G (c.fact 4 (f := (fun K => (He.Fa.free "int").ok K)) rfl)
  f_isinstance := He.free_ok X G (c.fact 5 (f := (fun K => (He.Fa.free "isinstance").ok K)) rfl)
  f_enumerate := He.free_ok X G (c.fact 6 (f := (fun K => (He.Fa.free "enumerate").ok K)) rfl)
  f_tuple := He.free_ok X G (c.fact 7 (f := (fun K => (He.Fa.free "tuple").ok K)) rfl)
  f_list := He.free_ok X G (c.fact 8 (f := (fun K => (He.Fa.free "list").ok K)) rfl)
  f_str := He.free_ok X G (c.fact 9 (f := (fun K => (He.Fa.free "str").ok K)) rfl)
  f_bool := He.free_ok X G (c.fact 10 (f := (fun K => (He.Fa.free "bool").ok K)) rfl)
  f_TypeError := He.free_ok X G (c.fact 11 (f := (fun K => (He.Fa.free "TypeError").ok K)) rfl)
  f_ValueError := He.free_ok X G (c.fact 12 (f := (fun K => (He.Fa.free "ValueError").ok K)) rfl)
  v_LEFT := He.str_ok X G (c.fact 13 (f := (fun K => (He.Fa.str "LEFT" "left").ok K)) rfl)
  v_RIGHT := He.str_ok X G (c.fact 14 (f := (fun K => (He.Fa.str "RIGHT" "right").ok K)) rfl)
  g_SIDES := He.glo_ok X G (c.fact 15 (f := (fun K => (He.Fa.glo "SIDES").ok K)) rfl)
  t_SIDES := fun H => He.tupB_ok (c.fact 16 (f := (fun K => He.tupB K "SIDES" [.str "left", .str "right"])) rfl) H
  v_MAX_STONES_rows := He.int_ok X G (c.fact 17 (f := (fun K => (He.Fa.int "MAX_STONES_rows" 40).ok K)) rfl)
  v_MAX_PLACE := He.int_ok X G (c.fact 18 (f := (fun K => (He.Fa.int "MAX_PLACE" 1000000000).ok K)) rfl)
  v_MAX_HEIGHT := He.int_ok X G (c.fact 19 (f := (fun K => (He.Fa.int "MAX_HEIGHT" 1000000000).ok K)) rfl)
  d_AlreadyFallen_init := c.def_ 0 (d := h_AlreadyFallen_init) rfl
  d_is_integer := c.def_ 1 (d := h_is_integer) rfl
  g_is_integer := He.glo_ok X G (c.fact 20 (f := (fun K => (He.Fa.glo "is_integer").ok K)) rfl)
  d_is_stone := c.def_ 2 (d := h_is_stone) rfl
  g_is_stone := He.glo_ok X G (c.fact 21 (f := (fun K => (He.Fa.glo "is_stone").ok K)) rfl)
  d_check_side := c.def_ 3 (d := h_check_side) rfl
  g_check_side := He.glo_ok X G (c.fact 22 (f := (fun K => (He.Fa.glo "check_side").ok K)) rfl)
  d_Row_init := c.def_ 4 (d := h_Row_init) rfl
  m_Row_init := He.meth_ok (c.fact 23 (f := (fun K => (He.Fa.meth "Row" "__init__").ok K)) rfl)
  d_Row_len := c.def_ 5 (d := h_Row_len) rfl
  m_Row_len := He.meth_ok (c.fact 24 (f := (fun K => (He.Fa.meth "Row" "__len__").ok K)) rfl)
  d_Row_check_stone := c.def_ 6 (d := h_Row_check_stone) rfl
  m_Row_check_stone := He.meth_ok (c.fact 25 (f := (fun K => (He.Fa.meth "Row" "check_stone").ok K)) rfl)
  d_Row_add := c.def_ 7 (d := h_Row_add) rfl
  m_Row_add := He.meth_ok (c.fact 26 (f := (fun K => (He.Fa.meth "Row" "__add__").ok K)) rfl)
  d_row_of := c.def_ 8 (d := h_row_of) rfl
  g_row_of := He.glo_ok X G (c.fact 27 (f := (fun K => (He.Fa.glo "row_of").ok K)) rfl)
  d_mirrored := c.def_ 9 (d := h_mirrored) rfl
  g_mirrored := He.glo_ok X G (c.fact 28 (f := (fun K => (He.Fa.glo "mirrored").ok K)) rfl)
  d_right_end := c.def_ 10 (d := h_right_end) rfl
  g_right_end := He.glo_ok X G (c.fact 29 (f := (fun K => (He.Fa.glo "right_end").ok K)) rfl)
  d_run_of := c.def_ 11 (d := h_run_of) rfl
  g_run_of := He.glo_ok X G (c.fact 30 (f := (fun K => (He.Fa.glo "run_of").ok K)) rfl)
  d_check_push := c.def_ 12 (d := h_check_push) rfl
  g_check_push := He.glo_ok X G (c.fact 31 (f := (fun K => (He.Fa.glo "check_push").ok K)) rfl)
  d_falls_by := c.def_ 13 (d := h_falls_by) rfl
  g_falls_by := He.glo_ok X G (c.fact 32 (f := (fun K => (He.Fa.glo "falls_by").ok K)) rfl)
  d_law_taken := c.def_ 14 (d := h_law_taken) rfl
  g_law_taken := He.glo_ok X G (c.fact 33 (f := (fun K => (He.Fa.glo "_law_taken").ok K)) rfl)
  d_law_alike := c.def_ 15 (d := h_law_alike) rfl
  g_law_alike := He.glo_ok X G (c.fact 34 (f := (fun K => (He.Fa.glo "_law_alike").ok K)) rfl)
  d_law_raised := c.def_ 16 (d := h_law_raised) rfl
  g_law_raised := He.glo_ok X G (c.fact 35 (f := (fun K => (He.Fa.glo "_law_raised").ok K)) rfl)
  d_law_stones := c.def_ 17 (d := h_law_stones) rfl
  g_law_stones := He.glo_ok X G (c.fact 36 (f := (fun K => (He.Fa.glo "_law_stones").ok K)) rfl)
  d_law_row := c.def_ 18 (d := h_law_row) rfl
  g_law_row := He.glo_ok X G (c.fact 37 (f := (fun K => (He.Fa.glo "_law_row").ok K)) rfl)
  d_law_fallen := c.def_ 19 (d := h_law_fallen) rfl
  g_law_fallen := He.glo_ok X G (c.fact 38 (f := (fun K => (He.Fa.glo "_law_fallen").ok K)) rfl)
  d_law_played := c.def_ 20 (d := h_law_played) rfl
  g_law_played := He.glo_ok X G (c.fact 39 (f := (fun K => (He.Fa.glo "_law_played").ok K)) rfl)
  d_law := c.def_ 21 (d := h_law) rfl
  g_law := He.glo_ok X G (c.fact 40 (f := (fun K => (He.Fa.glo "law").ok K)) rfl)
  g_StoneError := He.glo_ok X G (c.fact 41 (f := (fun K => (He.Fa.glo "StoneError").ok K)) rfl)
  g_InvalidRow := He.glo_ok X G (c.fact 42 (f := (fun K => (He.Fa.glo "InvalidRow").ok K)) rfl)
  g_UnknownStone := He.glo_ok X G (c.fact 43 (f := (fun K => (He.Fa.glo "UnknownStone").ok K)) rfl)
  g_InvalidSide := He.glo_ok X G (c.fact 44 (f := (fun K => (He.Fa.glo "InvalidSide").ok K)) rfl)
  g_InvalidNumber := He.glo_ok X G (c.fact 45 (f := (fun K => (He.Fa.glo "InvalidNumber").ok K)) rfl)
  g_AlreadyFallen := He.glo_ok X G (c.fact 46 (f := (fun K => (He.Fa.glo "AlreadyFallen").ok K)) rfl)
  g_OtherRow := He.glo_ok X G (c.fact 47 (f := (fun K => (He.Fa.glo "OtherRow").ok K)) rfl)
  g_Row := He.glo_ok X G (c.fact 48 (f := (fun K => (He.Fa.glo "Row").ok K)) rfl)
  c_Row := He.cls_ok (c.fact 49 (f := (fun K => (He.Fa.cls "Row").ok K)) rfl)
  mk_Row := He.mkr_ok (c.fact 50 (f := (fun K => (He.Fa.mkr "Row").ok K)) rfl)
  sf_Row := c.fact 51 (f := (fun K => PySem.W.selfFirst K (He.ga K "Row"))) rfl
  ne_Row := c.fact 52 (f := (fun K => neOk K (He.ga K "Row"))) rfl
  is_Row := c.fact 53 (f := (fun K => isOk K (He.ga K "Row"))) rfl
  sh_Row := c.fact 54 (f := (fun K => shOk K (He.ga K "Row") "rshift")) rfl
  na_Row_blocks := He.noat_ok (c.fact 55 (f := (fun K => (He.Fa.noat "Row" "blocks").ok K)) rfl)
  ixs := fun a ha => List.all_eq_true.mp (c.fact 56 (f := (fun K => xcL.all fun a => isXB K (He.ga K a))) rfl) a ha
  ems := fun a ha => of_decide_eq_true (List.all_eq_true.mp (c.fact 57 (f := (fun K => xcL.all fun a => decide (PySem.W.exmOne K (.ref (He.ga K a)) (.ref (He.ga K "StoneError")) = some true))) rfl) a ha)
  nsi := fun a ha => of_decide_eq_true (List.all_eq_true.mp (c.fact 58 (f := (fun K => xcL.all fun a => decide (PySem.W.subIn K (.ref (He.ga K a)) (.type "StopIteration") = some false))) rfl) a ha)
  kis := fun a ha => of_decide_eq_true (List.all_eq_true.mp (c.fact 59 (f := (fun K => kiL.all fun p => decide (PySem.W.kitOne K (.ref (He.ga K p.1)) (.ref (He.ga K p.2.1)) = some p.2.2))) rfl) a ha)
  kvs := fun a ha => of_decide_eq_true (List.all_eq_true.mp (c.fact 60 (f := (fun K => xcL.all fun a => decide (PySem.W.kitOne K (.ref (He.ga K a)) (.type "ValueError") = some true))) rfl) a ha)
  nofs := fun a ha f hf => of_decide_eq_true (List.all_eq_true.mp (List.all_eq_true.mp (c.fact 61 (f := (fun K => xcL.all fun a => xfL.all fun f => decide (PySem.W.findIn K (.ref (He.ga K a)) f = some none))) rfl) a ha) f hf)
  bcx := c.fact 62 (f := (fun K => baseB K (He.ga K "StoneError"))) rfl
  xc_UnknownStone := xc0B_ok (c.fact 63 (f := (fun K => xc0B K (He.ga K "UnknownStone"))) rfl)
  xc_InvalidSide := xc0B_ok (c.fact 64 (f := (fun K => xc0B K (He.ga K "InvalidSide"))) rfl)
  ox_AlreadyFallen := oexB_ok (c.fact 65 (f := (fun K => oexB K (He.ga K "AlreadyFallen"))) rfl)
  in_AlreadyFallen := of_decide_eq_true (c.fact 66 (f := (fun K => decide (PySem.W.findIn K (.ref (He.ga K "AlreadyFallen")) "__init__" = some (some (.ref (He.ma K (He.ga K "AlreadyFallen") "__init__")))))) rfl)
  it_AlreadyFallen := of_decide_eq_true (c.fact 67 (f := (fun K => decide (PySem.W.typeIn K (.ref (He.ma K (He.ga K "AlreadyFallen") "__init__")) = some (.type "function")))) rfl)
  tbs := fun g hg => List.all_eq_true.mp (c.fact 68 (f := (fun K => ltL.all fun g => tabB K (He.ga K g))) rfl) g hg
  tbn := of_decide_eq_true (c.fact 69 (f := (fun K => decide (ltL.map fun g => tabA K (He.ga K g)).Nodup)) rfl)
-- law index 36
local macro_rules | `(tactic| walk_at "vis") => `(tactic| first | exact Or.inl rfl | exact Or.inr (Or.inl rfl) | exact Or.inr (Or.inr rfl))
local macro_rules | `(tactic| walk_at "loc") => `(tactic| first | exact Or.inl rfl | exact Or.inr rfl)
/-! is_integer -/
noncomputable def m_is_integer (a0 : D) (a1 : D) (a2 : D) : Option (D) :=
  (dIsi Kd.isInt a0).bind fun t1 => (cond t1 ((dIsi Kd.isBool a0).bind fun t2 => (cond (!t2) ((dLe a1 a0).bind fun t3 => (dLe a0 a2).bind fun t4 => some (t3 && t4)) (some false)).bind fun t5 => some t5) (some false)).bind fun t6 => some (.bl t6)
def R_is_integer (G : Str → Addr) : FSpec := fun xs os r os' => ∃ (a0 : D) (a1 : D) (a2 : D) , xs = [.d a0, .d a1, .d a2] ∧ os = [] ∧ os' = [] ∧ ∃ t, r = t ∧ m_is_integer a0 a1 a2 = some t
section
variable {P : Program} {w : World} {K : PySem.W.Frag} {mg : Str → Option Value} {base : Heap}
set_option maxHeartbeats 4000000 in
theorem ok_is_integer (T : Tx K mg) : FnR P w K mg base CX0 1 (He.ga K "is_integer") (spF K (R_is_integer (He.ga K))) := by
  obtain ⟨fd, F⟩ := T.d_is_integer
  have nd := sc_is_integer.nd
  have hb : Binds K fd ["value", "low", "high"] [] := F.bindsN fun _ _ _ _ _ _ us hl => match us, hl with | [_, _, _], _ => rfl
  refine fn_D F sc_is_integer hb ?_ ?_
  · rintro xs os r os' ⟨a0, a1, a2, rfl, rfl, rfl, t, rfl, _⟩
    exact ⟨rfl, rfl, by simp⟩
  · rintro cdv A outer s_ H E hr xs os r os' ⟨a0, a1, a2, rfl, rfl, rfl, t, rfl, h⟩ _
    have f_int := T.f_int
    have f_isinstance := T.f_isinstance
    have f_bool := T.f_bool
    unfold m_is_integer at h
    refine sds_eq (ρ1 := ⟨0, [some (.d a0), some (.d a1), some (.d a2)], []⟩) ?_ rfl
    replace h := bnd h
    obtain ⟨t1, h1, h⟩ := h
    replace h := bnd h
    obtain ⟨t6, h6, h⟩ := h
    cases h
    exact sds_ret (ed_andM (ed_blt (cb_isiM kit_int h1) (ad_cons (ed_v rfl (.inl rfl) rfl rfl) (ad_cons (ed_bty f_int rfl boot_int (by decide) rfl) ad_nil rfl) rfl) f_isinstance boot_isinstance rfl (by decide) rfl rfl rfl) h6 (fun h => by replace h := bnd h; obtain ⟨t2, h2, h⟩ := h; replace h := bnd h; obtain ⟨t5, h5, h⟩ := h; exact ED.smB h (ed_andM (ed_not (ed_blt (cb_isiM kit_bool h2) (ad_cons (ed_v rfl (.inl rfl) rfl rfl) (ad_cons (ed_bty f_bool rfl boot_bool (by decide) rfl) ad_nil rfl) rfl) f_isinstance boot_isinstance rfl (by decide) rfl rfl rfl)) h5 (fun h => by replace h := bnd h; obtain ⟨t3, h3, h⟩ := h; replace h := bnd h; obtain ⟨t4, h4, h⟩ := h; exact ED.smB h (ed_one (ed_leleM (ed_v rfl (.inl rfl) rfl rfl) (ed_v rfl (.inl rfl) rfl rfl) (ed_v rfl (.inl rfl) rfl rfl) h3 h4 rfl)))))) ⟨rfl, rfl⟩
end
theorem CG_is_integer {P : Program} {w : World} {K : PySem.W.Frag} {mg : Str → Option Value} {base : Heap} {A : Around} {k : Nat} (T : Tx K mg) (hr : Room k A) (h : 1 ≤ k) : CGs P w K mg base A "is_integer" (R_is_integer (He.ga K)) := ⟨_, _, ok_is_integer T, hr.mono h, T.g_is_integer, kp_of T.d_is_integer⟩

/-! is_stone -/
noncomputable def m_is_stone (a0 : D) (a1 : D) : Option (D) :=
  (dM2 a0).bind fun m3 => (match m3 with | some (x1, x2) => (dIsi Kd.isTup a0).bind fun t4 => (dB (.bl t4)).bind fun t5 => cond t5 ((m_is_integer x1 a1 (.int 1000000000)).bind fun t6 => (dB t6).bind fun t7 => (cond t7 ((m_is_integer x2 (.int 1) (.int 1000000000)).bind fun t8 => (dB t8).bind fun t9 => some t9) (some false)).bind fun t10 => some (.bl t10)) (some (.bl false)) | none => some (.bl false))
def R_is_stone (G : Str → Addr) : FSpec := fun xs os r os' => ∃ (a0 : D) (a1 : D) , xs = [.d a0, .d a1] ∧ os = [] ∧ os' = [] ∧ ∃ t, r = t ∧ m_is_stone a0 a1 = some t
section
variable {P : Program} {w : World} {K : PySem.W.Frag} {mg : Str → Option Value} {base : Heap}
set_option maxHeartbeats 4000000 in
theorem ok_is_stone (T : Tx K mg) : FnR P w K mg base CX0 2 (He.ga K "is_stone") (spF K (R_is_stone (He.ga K))) := by
  obtain ⟨fd, F⟩ := T.d_is_stone
  have nd := sc_is_stone.nd
  have hb : Binds K fd ["value", "least"] [] := F.bindsN fun _ _ _ _ _ _ us hl => match us, hl with | [_, _], _ => rfl
  refine fn_D F sc_is_stone hb ?_ ?_
  · rintro xs os r os' ⟨a0, a1, rfl, rfl, rfl, t, rfl, _⟩
    exact ⟨rfl, rfl, by simp⟩
  · rintro cdv A outer s_ H E hr xs os r os' ⟨a0, a1, rfl, rfl, rfl, t, rfl, h⟩ _
    have f_tuple := T.f_tuple
    have f_isinstance := T.f_isinstance
    have cg_is_integer := CG_is_integer (P := P) (w := w) (base := base) T hr (by decide)
    obtain ⟨t_MAX_PLACE, v_MAX_PLACE⟩ := T.v_MAX_PLACE
    obtain ⟨t_MAX_HEIGHT, v_MAX_HEIGHT⟩ := T.v_MAX_HEIGHT
    unfold m_is_stone at h
    refine sds_eq (ρ1 := ⟨0, [some (.d a0), some (.d a1), none, none], []⟩) ?_ rfl
    replace h := bnd h
    obtain ⟨m3, h1, h⟩ := h
    rcases m3 with _ | ⟨x1, x2⟩
    · try dsimp only at h
      refine sds_matchMiss (i := 2) (j := 3) (ed_v rfl (.inl rfl) rfl rfl) (dM2_miss h1) ?_ rfl nd rfl rfl (.inl rfl) (.inl rfl) (.inl rfl) (.inl rfl)
      cases h
      exact sds_ret ed_bl ⟨rfl, rfl⟩
    · try dsimp only at h
      replace h := bnd h
      obtain ⟨t4, h2, h⟩ := h
      replace h := bnd h
      obtain ⟨t5, h3, h⟩ := h
      refine sds_matchM 2 3 (ed_v rfl (.inl rfl) rfl rfl) (dM2_hit h1) (td_valM (ed_blt (cb_isiM kit_tup h2) (ad_cons (ed_v rfl (.inl rfl) rfl rfl) (ad_cons (ed_bty f_tuple rfl boot_tuple (by decide) rfl) ad_nil rfl) rfl) f_isinstance boot_isinstance rfl (by decide) rfl rfl rfl) h3 (fun _ => rfl)) h (fun h => ?_) (fun h => ?_) rfl nd rfl rfl (.inl rfl) (.inl rfl) (.inl rfl) (.inl rfl)
      · replace h := bnd h
        obtain ⟨t6, h4, h⟩ := h
        replace h := bnd h
        obtain ⟨t7, h5, h⟩ := h
        replace h := bnd h
        obtain ⟨t10, h8, h⟩ := h
        cases h
        exact sds_ret (ed_andM (ed_valM (ed_call cg_is_integer (ad_cons (ed_v rfl (.inl rfl) rfl rfl) (ad_cons (ed_v rfl (.inl rfl) rfl rfl) (ad_cons (ed_gint v_MAX_PLACE rfl rfl) ad_nil rfl) rfl) rfl) allD3 ⟨_, _, _, rfl, rfl, rfl, _, rfl, h4⟩ rfl rfl rfl rfl) h5) h8 (fun h => by replace h := bnd h; obtain ⟨t8, h6, h⟩ := h; replace h := bnd h; obtain ⟨t9, h7, h⟩ := h; exact ED.smB h (ed_one (ed_valM (ed_call cg_is_integer (ad_cons (ed_v rfl (.inl rfl) rfl rfl) (ad_cons ed_int (ad_cons (ed_gint v_MAX_HEIGHT rfl rfl) ad_nil rfl) rfl) rfl) allD3 ⟨_, _, _, rfl, rfl, rfl, _, rfl, h6⟩ rfl rfl rfl rfl) h7)))) ⟨rfl, rfl⟩
      · cases h
        exact sds_ret ed_bl ⟨rfl, rfl⟩
end
theorem CG_is_stone {P : Program} {w : World} {K : PySem.W.Frag} {mg : Str → Option Value} {base : Heap} {A : Around} {k : Nat} (T : Tx K mg) (hr : Room k A) (h : 2 ≤ k) : CGs P w K mg base A "is_stone" (R_is_stone (He.ga K)) := ⟨_, _, ok_is_stone T, hr.mono h, T.g_is_stone, kp_of T.d_is_stone⟩

/-! check_side -/
noncomputable def m_check_side (a0 : D) : Option (D) :=
  (dIsi Kd.isStr a0).bind fun t1 => (dB (.bl t1)).bind fun t2 => (cond (!t2) (some true) ((dNinX a0 (.ktp [.str "left", .str "right"])).bind fun t3 => some t3)).bind fun t4 => cond t4 (none) (some .non)
def R_check_side (G : Str → Addr) : FSpec := fun xs os r os' => ∃ (a0 : D) , xs = [.d a0] ∧ os = [] ∧ os' = [] ∧ ∃ t, r = t ∧ m_check_side a0 = some t
section
variable {P : Program} {w : World} {K : PySem.W.Frag} {mg : Str → Option Value} {base : Heap}
set_option maxHeartbeats 4000000 in
theorem ok_check_side (T : Tx K mg) : FnR P w K mg base CX0 1 (He.ga K "check_side") (spF K (R_check_side (He.ga K))) := by
  obtain ⟨fd, F⟩ := T.d_check_side
  have nd := sc_check_side.nd
  have hb : Binds K fd ["side"] [] := F.bindsN fun _ _ _ _ _ _ us hl => match us, hl with | [_], _ => rfl
  refine fn_D F sc_check_side hb ?_ ?_
  · rintro xs os r os' ⟨a0, rfl, rfl, rfl, t, rfl, _⟩
    exact ⟨rfl, rfl, by simp⟩
  · rintro cdv A outer s_ H E hr xs os r os' ⟨a0, rfl, rfl, rfl, t, rfl, h⟩ _
    have f_str := T.f_str
    have f_isinstance := T.f_isinstance
    have g_SIDES := T.g_SIDES
    unfold m_check_side at h
    refine sds_eq (ρ1 := ⟨0, [some (.d a0)], []⟩) ?_ rfl
    replace h := bnd h
    obtain ⟨t1, h1, h⟩ := h
    replace h := bnd h
    obtain ⟨t2, h2, h⟩ := h
    replace h := bnd h
    obtain ⟨t4, h4, h⟩ := h
    refine sds_ifM (TW.td (tw_orM (td_not (td_valM (ed_blt (cb_isiM kit_str h1) (ad_cons (ed_v rfl (.inl rfl) rfl rfl) (ad_cons (ed_bty f_str rfl boot_str (by decide) rfl) ad_nil rfl) rfl) f_isinstance boot_isinstance rfl (by decide) rfl rfl rfl) h2 (fun _ => rfl))) h4 (fun h => by replace h := bnd h; obtain ⟨t3, h3, h⟩ := h; exact TW.sm h (tw_or1 (td_ninX (ed_v rfl (.inl rfl) rfl rfl) (ed_gtup g_SIDES T.t_SIDES (fun S => .cons (.str _) (.cons (.str _) .nil)) rfl rfl) h3 rfl))))) h (fun h => ?_) (fun h => ?_)
    · cases h
    · refine sds_nil ?_
      cases h
      exact sds_nil ⟨rfl, rfl⟩
end
theorem CG_check_side {P : Program} {w : World} {K : PySem.W.Frag} {mg : Str → Option Value} {base : Heap} {A : Around} {k : Nat} (T : Tx K mg) (hr : Room k A) (h : 1 ≤ k) : CGs P w K mg base A "check_side" (R_check_side (He.ga K)) := ⟨_, _, ok_check_side T, hr.mono h, T.g_check_side, kp_of T.d_check_side⟩

/-! Row.__init__ -/
noncomputable def m_Row_init (a1 : D) : Option (D) :=
  (dEnum a1).bind fun t1 => (forS (fun d3 => fun (s2 : D) => (dUn2 d3).bind fun z => (match z with | (x4, x5) => (dEq x4 (.int 40)).bind fun t6 => (cond t6 (some true) ((m_is_stone x5 s2).bind fun t7 => (dB t7).bind fun t8 => some (!t8))).bind fun t9 => cond t9 (none) ((dIx x5 (.int 0)).bind fun t10 => (dAddX t10 (.int 1)).bind fun t11 => some t11))) t1 (.int 0)).bind (fun (s12 : D) => some a1)
def R_Row_init (G : Str → Addr) : FSpec := R_rowI m_Row_init (G "Row")
section
variable {P : Program} {w : World} {K : PySem.W.Frag} {mg : Str → Option Value} {base : Heap}
set_option maxHeartbeats 4000000 in
theorem ok_Row_init (T : Tx K mg) : FnR P w K mg base CX0 3 (He.ma K (He.ga K "Row") "__init__") (spF K (starR (R_Row_init (He.ga K)))) := by
  obtain ⟨fd, F⟩ := T.d_Row_init
  have nd := sc_Row_init.nd
  refine fn_starD F sc_Row_init (fun _ _ _ _ _ _ _ => rfl) (fun _ _ _ _ _ _ _ _ _ => rfl) ?_ ?_
  · rintro xs os r os' ⟨a1, rfl, rfl, rfl, t, rfl, _⟩
    exact ⟨rfl, rfl, by rintro o ho; simp at ho; subst ho; exact ⟨_, (AllD.cons AllD.nil)⟩⟩
  · rintro cdv A outer s_ H E hr xs os r os' ⟨a1, rfl, rfl, rfl, t, rfl, h⟩ _
    have f_enumerate := T.f_enumerate
    obtain ⟨t_MAX_STONES_rows, v_MAX_STONES_rows⟩ := T.v_MAX_STONES_rows
    have hu := room_u hr
    have cg_is_stone := CG_is_stone (P := P) (w := w) (base := base) T hr (by decide)
    have k_Row := T.c_Row
    have na_Row_blocks := T.na_Row_blocks
    unfold m_Row_init at h
    refine sds_eq (ρ1 := ⟨1, [some (.loc 0), some (.d a1), none, none, none], [some (.ins (He.ga K "Row") [] [])]⟩) ?_ rfl
    refine sds_set 2 ed_int ?_ nd rfl (.inl rfl) rfl (.inl rfl)
    refine sds_eq (ρ1 := ⟨1, [some (.loc 0), some (.d a1), some (.d (.int 0)), none, none], [some (.ins (He.ga K "Row") [] [])]⟩) ?_ rfl
    replace h := bnd h
    obtain ⟨t1, h1, h⟩ := h
    replace h := bnd h
    obtain ⟨s12, h9, h⟩ := h
    refine sds_forC (vs := [3, 4]) (fun (s2 : D) => (⟨1, [some (.loc 0), some (.d a1), some (.d s2), none, none], [some (.ins (He.ga K "Row") [] [])]⟩ : DL.Env)) (fun _ => rfl) _ (it_enumM (ed_v rfl (.inl rfl) rfl rfl) h1 rfl f_enumerate rfl) h9 ⟨rfl, (wkK (wkK (wkK (wkF (wkF wk0))))), _, rfl⟩ ?_ ?_ PassesOwn.never rfl (fun _ => rfl)
    · rintro d3 s2 s_ h
      try dsimp only at h
      replace h := bnd h
      obtain ⟨⟨x4, x5⟩, h2, h⟩ := h
      obtain rfl := dUn2_ok h2
      refine ⟨_, (tg_tup rfl (tgl_cons (tg_name 3 nd rfl (.inl rfl) (.inl rfl)) (tgl_cons (tg_name 4 nd rfl (.inl rfl) (.inl rfl)) tgl_nil rfl) rfl) rfl rfl), ?_⟩
      refine sds_eq (ρ1 := ⟨1, [some (.loc 0), some (.d a1), some (.d s2), some (.d x4), some (.d x5)], [some (.ins (He.ga K "Row") [] [])]⟩) ?_ rfl
      replace h := bnd h
      obtain ⟨t6, h3, h⟩ := h
      replace h := bnd h
      obtain ⟨t9, h6, h⟩ := h
      refine sds_ifM (TW.td (tw_orM (td_eqM hu (ed_v rfl (.inl rfl) rfl rfl) (ed_gint v_MAX_STONES_rows rfl rfl) h3 rfl) h6 (fun h => by replace h := bnd h; obtain ⟨t7, h4, h⟩ := h; replace h := bnd h; obtain ⟨t8, h5, h⟩ := h; exact TW.sm h (tw_or1 (td_not (td_valM (ed_call cg_is_stone (ad_cons (ed_v rfl (.inl rfl) rfl rfl) (ad_cons (ed_v rfl (.inl rfl) rfl rfl) ad_nil rfl) rfl) allD2 ⟨_, _, rfl, rfl, rfl, _, rfl, h4⟩ rfl rfl rfl rfl) h5 (fun _ => rfl))))))) h (fun h => ?_) (fun h => ?_)
      · cases h
      · refine sds_nil ?_
        replace h := bnd h
        obtain ⟨t10, h7, h⟩ := h
        replace h := bnd h
        obtain ⟨t11, h8, h⟩ := h
        refine sds_set 2 (ed_addX (ed_ixM (ed_v rfl (.inl rfl) rfl rfl) ed_int h7 (fun _ _ => rfl)) ed_int h8) ?_ nd rfl (.inl rfl) rfl (.inl rfl)
        refine sds_eq (ρ1 := ⟨1, [some (.loc 0), some (.d a1), some (.d t11), some (.d x4), some (.d x5)], [some (.ins (He.ga K "Row") [] [])]⟩) ?_ rfl
        cases h
        exact sds_nil ⟨rfl, (wkK (wkK (wkK (wkF (wkF wk0))))), _, rfl⟩
    · try dsimp only at h
      refine sds_eq (ρ1 := ⟨1, [some (.loc 0), some (.d a1), some (.d s12), none, none], [some (.ins (He.ga K "Row") [] [])]⟩) ?_ rfl
      refine sds_fldN (ed_v rfl (.inl rfl) rfl rfl) (ed_v rfl (.inl rfl) rfl rfl) rfl ?_ k_Row na_Row_blocks (by decide) (by decide) rfl
      refine sds_eq (ρ1 := ⟨1, [some (.loc 0), some (.d a1), some (.d s12), none, none], [some (.ins (He.ga K "Row") ["blocks"] [.d a1])]⟩) ?_ rfl
      cases h
      exact sds_nil ⟨rfl, rfl⟩
end
theorem MK_Row_init {P : Program} {w : World} {K : PySem.W.Frag} {mg : Str → Option Value} {base : Heap} {A : Around} {k : Nat} (T : Tx K mg) (hr : Room k A) (h : 4 ≤ k) : MKs P w K mg base A (He.ga K "Row") "Row" (starR (R_Row_init (He.ga K))) := ⟨_, _, ok_Row_init T, hr.mono h, T.mk_Row, T.g_Row⟩

/-! Row.__len__ -/
noncomputable def m_Row_len (a0 : D) : Option (D) :=
  (dLen a0).bind fun t1 => some t1
section
variable {P : Program} {w : World} {K : PySem.W.Frag} {mg : Str → Option Value} {base : Heap}
end
/-! Row.check_stone -/
noncomputable def m_Row_check_stone (a0 : D) (a1 : D) : Option (D) :=
  (dLen a0).bind fun t1 => (dSub t1 (.int 1)).bind fun t2 => (m_is_integer a1 (.int 0) t2).bind fun t3 => (dB t3).bind fun t4 => cond (!t4) (none) (some .non)
def R_Row_check_stone (G : Str → Addr) : FSpec := fun xs os r os' => ∃ (a0 : D) (a1 : D) , xs = [.d (rowV (G "Row") a0), .d a1] ∧ os = [] ∧ os' = [] ∧ ∃ t, r = t ∧ m_Row_check_stone a0 a1 = some t
section
variable {P : Program} {w : World} {K : PySem.W.Frag} {mg : Str → Option Value} {base : Heap}
set_option maxHeartbeats 4000000 in
theorem ok_Row_check_stone (T : Tx K mg) : FnR P w K mg base CX0 2 (He.ma K (He.ga K "Row") "check_stone") (spF K (R_Row_check_stone (He.ga K))) := by
  obtain ⟨fd, F⟩ := T.d_Row_check_stone
  have nd := sc_Row_check_stone.nd
  have hb : Binds K fd ["self", "stone"] [] := F.bindsN fun _ _ _ _ _ _ us hl => match us, hl with | [_, _], _ => rfl
  refine fn_D F sc_Row_check_stone hb ?_ ?_
  · rintro xs os r os' ⟨a0, a1, rfl, rfl, rfl, t, rfl, _⟩
    exact ⟨rfl, rfl, by simp⟩
  · rintro cdv A outer s_ H E hr xs os r os' ⟨a0, a1, rfl, rfl, rfl, t, rfl, h⟩ _
    have cg_is_integer := CG_is_integer (P := P) (w := w) (base := base) T hr (by decide)
    have k_Row := T.c_Row
    have na_Row_blocks := T.na_Row_blocks
    have f_len := T.f_len
    unfold m_Row_check_stone at h
    refine sds_eq (ρ1 := ⟨0, [some (.d (rowV (He.ga K "Row") a0)), some (.d a1)], []⟩) ?_ rfl
    replace h := bnd h
    obtain ⟨t1, h1, h⟩ := h
    replace h := bnd h
    obtain ⟨t2, h2, h⟩ := h
    replace h := bnd h
    obtain ⟨t3, h3, h⟩ := h
    replace h := bnd h
    obtain ⟨t4, h4, h⟩ := h
    refine sds_ifM (td_not (td_valM (ed_call cg_is_integer (ad_cons (ed_v rfl (.inl rfl) rfl rfl) (ad_cons ed_int (ad_cons (ed_subM (ed_blt (cb_lenM h1) (ad_cons (ed_fld 0 (ed_v rfl (.inl rfl) rfl rfl) k_Row na_Row_blocks rfl rfl) ad_nil rfl) f_len boot_len rfl (by decide) rfl rfl rfl) ed_int h2) ad_nil rfl) rfl) rfl) allD3 ⟨_, _, _, rfl, rfl, rfl, _, rfl, h3⟩ rfl rfl rfl rfl) h4 (fun _ => rfl))) h (fun h => ?_) (fun h => ?_)
    · cases h
    · refine sds_nil ?_
      cases h
      exact sds_nil ⟨rfl, rfl⟩
end
theorem CM_Row_check_stone {P : Program} {w : World} {K : PySem.W.Frag} {mg : Str → Option Value} {base : Heap} {A : Around} {k : Nat} (T : Tx K mg) (hr : Room k A) (h : 2 ≤ k) : CMs P w K mg base A (He.ga K "Row") "check_stone" (R_Row_check_stone (He.ga K)) := ⟨T.c_Row, _, _, ok_Row_check_stone T, hr.mono h, T.m_Row_check_stone⟩

/-! row_of -/
noncomputable def m_row_of (a0 : D) : Option (D) :=
  (dSeq a0).bind fun t1 => (dTup t1).bind fun t2 => (m_Row_init t2).bind fun t3 => some t3
def R_row_of (G : Str → Addr) : FSpec := fun xs os r os' => ∃ (a0 : D) , xs = [.d a0] ∧ os = [] ∧ os' = [] ∧ ∃ t, r = (rowV (G "Row") t) ∧ m_row_of a0 = some t
section
variable {P : Program} {w : World} {K : PySem.W.Frag} {mg : Str → Option Value} {base : Heap}
set_option maxHeartbeats 4000000 in
theorem ok_row_of (T : Tx K mg) : FnR P w K mg base CX0 5 (He.ga K "row_of") (spF K (R_row_of (He.ga K))) := by
  obtain ⟨fd, F⟩ := T.d_row_of
  have nd := sc_row_of.nd
  have hb : Binds K fd ["stones"] [] := F.bindsN fun _ _ _ _ _ _ us hl => match us, hl with | [_], _ => rfl
  refine fn_D F sc_row_of hb ?_ ?_
  · rintro xs os r os' ⟨a0, rfl, rfl, rfl, t, rfl, _⟩
    exact ⟨rfl, rfl, by simp⟩
  · rintro cdv A outer s_ H E hr xs os r os' ⟨a0, rfl, rfl, rfl, t, rfl, h⟩ _
    have mk_Row_init := MK_Row_init (P := P) (w := w) (base := base) T hr (by decide)
    unfold m_row_of at h
    refine sds_eq (ρ1 := ⟨0, [some (.d a0)], []⟩) ?_ rfl
    replace h := bnd h
    obtain ⟨t1, h1, h⟩ := h
    replace h := bnd h
    obtain ⟨t2, h2, h⟩ := h
    replace h := bnd h
    obtain ⟨t3, h3, h⟩ := h
    cases h
    exact sds_ret (ed_makeRS mk_Row_init (ed_v rfl (.inl rfl) rfl rfl) h1 h2 h3 rfl rfl rfl) ⟨rfl, rfl⟩
end
theorem CG_row_of {P : Program} {w : World} {K : PySem.W.Frag} {mg : Str → Option Value} {base : Heap} {A : Around} {k : Nat} (T : Tx K mg) (hr : Room k A) (h : 5 ≤ k) : CGs P w K mg base A "row_of" (R_row_of (He.ga K)) := ⟨_, _, ok_row_of T, hr.mono h, T.g_row_of, kp_of T.d_row_of⟩

/-! mirrored -/
noncomputable def m_mirrored (a0 : D) : Option (D) :=
  (dLen a0).bind fun t1 => (dEq t1 (.int 0)).bind fun t2 => cond t2 (some a0) ((dIx a0 (.int 0)).bind fun t3 => (dIx t3 (.int 0)).bind fun t4 => (dIx a0 (.int (-1))).bind fun t5 => (dIx t5 (.int 0)).bind fun t6 => (dAddX t4 t6).bind fun t7 => (dRev a0).bind fun t8 => (dSeq t8).bind fun t9 => (lcG (fun d10 => (dUn2 d10).bind fun z => (match z with | (x11, x12) => (dSub t7 x11).bind fun t13 => some (some (.tup [t13, x12])))) t9).bind fun t14 => some (.lst t14))
def R_mirrored (G : Str → Addr) : FSpec := fun xs os r os' => ∃ (a0 : D) , xs = [.d a0] ∧ os = [] ∧ os' = [] ∧ ∃ t, r = t ∧ m_mirrored a0 = some t
section
variable {P : Program} {w : World} {K : PySem.W.Frag} {mg : Str → Option Value} {base : Heap}
set_option maxHeartbeats 4000000 in
theorem ok_mirrored (T : Tx K mg) : FnR P w K mg base CX0 1 (He.ga K "mirrored") (spF K (R_mirrored (He.ga K))) := by
  obtain ⟨fd, F⟩ := T.d_mirrored
  have nd := sc_mirrored.nd
  have hb : Binds K fd ["stones"] [] := F.bindsN fun _ _ _ _ _ _ us hl => match us, hl with | [_], _ => rfl
  refine fn_D F sc_mirrored hb ?_ ?_
  · rintro xs os r os' ⟨a0, rfl, rfl, rfl, t, rfl, _⟩
    exact ⟨rfl, rfl, by simp⟩
  · rintro cdv A outer s_ H E hr xs os r os' ⟨a0, rfl, rfl, rfl, t, rfl, h⟩ _
    have f_len := T.f_len
    have hu := room_u hr
    unfold m_mirrored at h
    refine sds_eq (ρ1 := ⟨0, [some (.d a0), none, none, none], []⟩) ?_ rfl
    replace h := bnd h
    obtain ⟨t1, h1, h⟩ := h
    replace h := bnd h
    obtain ⟨t2, h2, h⟩ := h
    refine sds_ifM (td_eqM hu (ed_blt (cb_lenM h1) (ad_cons (ed_v rfl (.inl rfl) rfl rfl) ad_nil rfl) f_len boot_len rfl (by decide) rfl rfl rfl) ed_int h2 rfl) h (fun h => ?_) (fun h => ?_)
    · cases h
      exact sds_ret (ed_v rfl (.inl rfl) rfl rfl) ⟨rfl, rfl⟩
    · refine sds_nil ?_
      replace h := bnd h
      obtain ⟨t3, h3, h⟩ := h
      replace h := bnd h
      obtain ⟨t4, h4, h⟩ := h
      replace h := bnd h
      obtain ⟨t5, h5, h⟩ := h
      replace h := bnd h
      obtain ⟨t6, h6, h⟩ := h
      replace h := bnd h
      obtain ⟨t7, h7, h⟩ := h
      refine sds_set 1 (ed_addX (ed_ixM (ed_ixM (ed_v rfl (.inl rfl) rfl rfl) ed_int h3 (fun _ _ => rfl)) ed_int h4 (fun _ _ => rfl)) (ed_ixM (ed_ixM (ed_v rfl (.inl rfl) rfl rfl) (ed_neg ed_int) h5 (fun _ _ => rfl)) ed_int h6 (fun _ _ => rfl)) h7) ?_ nd rfl (by walk_at "loc") rfl (by walk_at "loc")
      refine sds_eq (ρ1 := ⟨0, [some (.d a0), some (.d t7), none, none], []⟩) ?_ rfl
      replace h := bnd h
      obtain ⟨t8, h8, h⟩ := h
      replace h := bnd h
      obtain ⟨t9, h9, h⟩ := h
      replace h := bnd h
      obtain ⟨t14, h12, h⟩ := h
      cases h
      exact sds_ret (ed_lcC (own := [("place", 2), ("height", 3)]) (it_seqM (ed_revM (ed_v rfl (.inl rfl) rfl rfl) h8) h9) h12 (fun d10 o h => by replace h := bnd h; obtain ⟨⟨x11, x12⟩, h10, h⟩ := h; replace h := bnd h; obtain ⟨t13, h11, h⟩ := h; obtain rfl := dUn2_ok h10; exact lcP0 (blk_tup rfl (blk_cons (tg_blk 2 nd rfl rfl) (blk_cons (tg_blk 3 nd rfl rfl) blk_nil (fun _ _ _ _ _ => rfl)) (fun _ _ _ _ _ => rfl)) (fun _ _ _ _ _ => rfl) (fun _ _ _ _ _ => rfl)) (fun _ _ _ _ _ => (ed_tup (ad_cons (ed_subM (ed_v rfl (by walk_at "vis") rfl rfl) (ed_v rfl (by walk_at "vis") rfl rfl) h11) (ad_cons (ed_v rfl (by walk_at "vis") rfl rfl) ad_nil rfl) rfl) allD2 (by rw [sizeLine_eq]; exact Nat.le_of_ble_eq_true rfl))) h) (by decide) (blkOk_by rfl) nd rfl (fun _ => rfl)) ⟨rfl, rfl⟩
end
theorem CG_mirrored {P : Program} {w : World} {K : PySem.W.Frag} {mg : Str → Option Value} {base : Heap} {A : Around} {k : Nat} (T : Tx K mg) (hr : Room k A) (h : 1 ≤ k) : CGs P w K mg base A "mirrored" (R_mirrored (He.ga K)) := ⟨_, _, ok_mirrored T, hr.mono h, T.g_mirrored, kp_of T.d_mirrored⟩

/-! right_end -/
noncomputable def m_right_end (a0 : D) (a1 : D) : Option (D) :=
  (dIx a0 a1).bind fun t1 => (dIx t1 (.int 0)).bind fun t2 => (dIx a0 a1).bind fun t3 => (dIx t3 (.int 1)).bind fun t4 => (dAddX t2 t4).bind fun t5 => (whileS (fun (z : D × D) => (match z with | (s6, s7) => (dAddX s6 (.int 1)).bind fun t15 => (dLen a0).bind fun t16 => (dLt t15 t16).bind fun t17 => (cond t17 ((dAddX s6 (.int 1)).bind fun t18 => (dIx a0 t18).bind fun t19 => (dIx t19 (.int 0)).bind fun t20 => (dLe t20 s7).bind fun t21 => some t21) (some false)).bind fun t22 => some t22)) (fun (z : D × D) => (match z with | (s6, s7) => (dAddI s6 (.int 1)).bind fun t8 => (dIx a0 t8).bind fun t9 => (dIx t9 (.int 0)).bind fun t10 => (dIx a0 t8).bind fun t11 => (dIx t11 (.int 1)).bind fun t12 => (dAddX t10 t12).bind fun t13 => (dMax s7 t13).bind fun t14 => some (t8, t14))) fuel (a1, t5)).bind (fun (z : D × D) => (match z with | (s23, s24) => some s23))
def R_right_end (G : Str → Addr) : FSpec := fun xs os r os' => ∃ (a0 : D) (a1 : D) , xs = [.d a0, .d a1] ∧ os = [] ∧ os' = [] ∧ ∃ t, r = t ∧ m_right_end a0 a1 = some t
section
variable {P : Program} {w : World} {K : PySem.W.Frag} {mg : Str → Option Value} {base : Heap}
set_option maxHeartbeats 4000000 in
theorem ok_right_end (T : Tx K mg) : FnR P w K mg base CX0 1 (He.ga K "right_end") (spF K (R_right_end (He.ga K))) := by
  obtain ⟨fd, F⟩ := T.d_right_end
  have nd := sc_right_end.nd
  have hb : Binds K fd ["stones", "stone"] [] := F.bindsN fun _ _ _ _ _ _ us hl => match us, hl with | [_, _], _ => rfl
  refine fn_D F sc_right_end hb ?_ ?_
  · rintro xs os r os' ⟨a0, a1, rfl, rfl, rfl, t, rfl, _⟩
    exact ⟨rfl, rfl, by simp⟩
  · rintro cdv A outer s_ H E hr xs os r os' ⟨a0, a1, rfl, rfl, rfl, t, rfl, h⟩ _
    have f_len := T.f_len
    have f_max := T.f_max
    unfold m_right_end at h
    refine sds_eq (ρ1 := ⟨0, [some (.d a0), some (.d a1), none, none], []⟩) ?_ rfl
    refine sds_set 2 (ed_v rfl (.inl rfl) rfl rfl) ?_ nd rfl (.inl rfl) rfl (.inl rfl)
    refine sds_eq (ρ1 := ⟨0, [some (.d a0), some (.d a1), some (.d a1), none], []⟩) ?_ rfl
    replace h := bnd h
    obtain ⟨t1, h1, h⟩ := h
    replace h := bnd h
    obtain ⟨t2, h2, h⟩ := h
    replace h := bnd h
    obtain ⟨t3, h3, h⟩ := h
    replace h := bnd h
    obtain ⟨t4, h4, h⟩ := h
    replace h := bnd h
    obtain ⟨t5, h5, h⟩ := h
    refine sds_set 3 (ed_addX (ed_ixM (ed_ixM (ed_v rfl (.inl rfl) rfl rfl) (ed_v rfl (.inl rfl) rfl rfl) h1 (fun _ _ => rfl)) ed_int h2 (fun _ _ => rfl)) (ed_ixM (ed_ixM (ed_v rfl (.inl rfl) rfl rfl) (ed_v rfl (.inl rfl) rfl rfl) h3 (fun _ _ => rfl)) ed_int h4 (fun _ _ => rfl)) h5) ?_ nd rfl (.inl rfl) rfl (.inl rfl)
    refine sds_eq (ρ1 := ⟨0, [some (.d a0), some (.d a1), some (.d a1), some (.d t5)], []⟩) ?_ rfl
    replace h := bnd h
    obtain ⟨⟨s23, s24⟩, h21, h⟩ := h
    refine sds_whileC (fun (z : D × D) => (match z with | (s6, s7) => (⟨0, [some (.d a0), some (.d a1), some (.d s6), some (.d s7)], []⟩ : DL.Env))) (fun _ => rfl) _ _ h21 ⟨rfl, (wkK (wkK (wkK (wkK wk0)))), _, rfl⟩ ?_ ?_ ?_ PassesOwn.never
    · rintro ⟨s6, s7⟩ p_ h
      try dsimp only at h
      replace h := bnd h
      obtain ⟨t15, h13, h⟩ := h
      replace h := bnd h
      obtain ⟨t16, h14, h⟩ := h
      replace h := bnd h
      obtain ⟨t17, h15, h⟩ := h
      replace h := bnd h
      obtain ⟨t22, h20, h⟩ := h
      exact TD.sm h (TW.td (tw_andM (td_ltM (ed_addX (ed_v rfl (.inl rfl) rfl rfl) ed_int h13) (ed_blt (cb_lenM h14) (ad_cons (ed_v rfl (.inl rfl) rfl rfl) ad_nil rfl) f_len boot_len rfl (by decide) rfl rfl rfl) h15) h20 (fun h => by replace h := bnd h; obtain ⟨t18, h16, h⟩ := h; replace h := bnd h; obtain ⟨t19, h17, h⟩ := h; replace h := bnd h; obtain ⟨t20, h18, h⟩ := h; replace h := bnd h; obtain ⟨t21, h19, h⟩ := h; exact TW.sm h (tw_and1 (td_leM (ed_ixM (ed_ixM (ed_v rfl (.inl rfl) rfl rfl) (ed_addX (ed_v rfl (.inl rfl) rfl rfl) ed_int h16) h17 (fun _ _ => rfl)) ed_int h18 (fun _ _ => rfl)) (ed_v rfl (.inl rfl) rfl rfl) h19)))))
    · rintro ⟨s6, s7⟩ s_ h
      try dsimp only at h
      refine sds_eq (ρ1 := ⟨0, [some (.d a0), some (.d a1), some (.d s6), some (.d s7)], []⟩) ?_ rfl
      replace h := bnd h
      obtain ⟨t8, h6, h⟩ := h
      refine sds_augI' 2 rfl ed_int h6 ?_ nd rfl (.inl rfl) (.inl rfl)
      refine sds_eq (ρ1 := ⟨0, [some (.d a0), some (.d a1), some (.d t8), some (.d s7)], []⟩) ?_ rfl
      replace h := bnd h
      obtain ⟨t9, h7, h⟩ := h
      replace h := bnd h
      obtain ⟨t10, h8, h⟩ := h
      replace h := bnd h
      obtain ⟨t11, h9, h⟩ := h
      replace h := bnd h
      obtain ⟨t12, h10, h⟩ := h
      replace h := bnd h
      obtain ⟨t13, h11, h⟩ := h
      replace h := bnd h
      obtain ⟨t14, h12, h⟩ := h
      refine sds_set 3 (ed_blt (cb_maxM rfl h12) (ad_cons (ed_v rfl (.inl rfl) rfl rfl) (ad_cons (ed_addX (ed_ixM (ed_ixM (ed_v rfl (.inl rfl) rfl rfl) (ed_v rfl (.inl rfl) rfl rfl) h7 (fun _ _ => rfl)) ed_int h8 (fun _ _ => rfl)) (ed_ixM (ed_ixM (ed_v rfl (.inl rfl) rfl rfl) (ed_v rfl (.inl rfl) rfl rfl) h9 (fun _ _ => rfl)) ed_int h10 (fun _ _ => rfl)) h11) ad_nil rfl) rfl) f_max boot_max rfl (by decide) rfl rfl rfl) ?_ nd rfl (.inl rfl) rfl (.inl rfl)
      refine sds_eq (ρ1 := ⟨0, [some (.d a0), some (.d a1), some (.d t8), some (.d t14)], []⟩) ?_ rfl
      cases h
      exact sds_nil ⟨rfl, (wkK (wkK (wkK (wkK wk0)))), _, rfl⟩
    · try dsimp only at h
      refine sds_eq (ρ1 := ⟨0, [some (.d a0), some (.d a1), some (.d s23), some (.d s24)], []⟩) ?_ rfl
      cases h
      exact sds_ret (ed_v rfl (.inl rfl) rfl rfl) ⟨rfl, rfl⟩
end
theorem CG_right_end {P : Program} {w : World} {K : PySem.W.Frag} {mg : Str → Option Value} {base : Heap} {A : Around} {k : Nat} (T : Tx K mg) (hr : Room k A) (h : 1 ≤ k) : CGs P w K mg base A "right_end" (R_right_end (He.ga K)) := ⟨_, _, ok_right_end T, hr.mono h, T.g_right_end, kp_of T.d_right_end⟩

/-! run_of -/
noncomputable def m_run_of (a0 : D) (a1 : D) (a2 : D) : Option (D) :=
  (dEq a2 (.str "right")).bind fun t1 => cond t1 ((m_right_end a0 a1).bind fun t2 => some (.tup [a1, t2])) ((dLen a0).bind fun t3 => (dSub t3 (.int 1)).bind fun t4 => (m_mirrored a0).bind fun t5 => (dSub t4 a1).bind fun t6 => (m_right_end t5 t6).bind fun t7 => (dSub t4 t7).bind fun t8 => some (.tup [t8, a1]))
def R_run_of (G : Str → Addr) : FSpec := fun xs os r os' => ∃ (a0 : D) (a1 : D) (a2 : D) , xs = [.d a0, .d a1, .d a2] ∧ os = [] ∧ os' = [] ∧ ∃ t, r = t ∧ m_run_of a0 a1 a2 = some t
section
variable {P : Program} {w : World} {K : PySem.W.Frag} {mg : Str → Option Value} {base : Heap}
set_option maxHeartbeats 4000000 in
theorem ok_run_of (T : Tx K mg) : FnR P w K mg base CX0 2 (He.ga K "run_of") (spF K (R_run_of (He.ga K))) := by
  obtain ⟨fd, F⟩ := T.d_run_of
  have nd := sc_run_of.nd
  have hb : Binds K fd ["stones", "stone", "side"] [] := F.bindsN fun _ _ _ _ _ _ us hl => match us, hl with | [_, _, _], _ => rfl
  refine fn_D F sc_run_of hb ?_ ?_
  · rintro xs os r os' ⟨a0, a1, a2, rfl, rfl, rfl, t, rfl, _⟩
    exact ⟨rfl, rfl, by simp⟩
  · rintro cdv A outer s_ H E hr xs os r os' ⟨a0, a1, a2, rfl, rfl, rfl, t, rfl, h⟩ _
    obtain ⟨t_RIGHT, v_RIGHT⟩ := T.v_RIGHT
    have hu := room_u hr
    have cg_right_end := CG_right_end (P := P) (w := w) (base := base) T hr (by decide)
    have f_len := T.f_len
    have cg_mirrored := CG_mirrored (P := P) (w := w) (base := base) T hr (by decide)
    unfold m_run_of at h
    refine sds_eq (ρ1 := ⟨0, [some (.d a0), some (.d a1), some (.d a2), none], []⟩) ?_ rfl
    replace h := bnd h
    obtain ⟨t1, h1, h⟩ := h
    refine sds_ifM (td_eqM hu (ed_v rfl (.inl rfl) rfl rfl) (ed_gstr v_RIGHT rfl rfl) h1 rfl) h (fun h => ?_) (fun h => ?_)
    · replace h := bnd h
      obtain ⟨t2, h2, h⟩ := h
      cases h
      exact sds_ret (ed_tup (ad_cons (ed_v rfl (.inl rfl) rfl rfl) (ad_cons (ed_call cg_right_end (ad_cons (ed_v rfl (.inl rfl) rfl rfl) (ad_cons (ed_v rfl (.inl rfl) rfl rfl) ad_nil rfl) rfl) allD2 ⟨_, _, rfl, rfl, rfl, _, rfl, h2⟩ rfl rfl rfl rfl) ad_nil rfl) rfl) allD2 (by rw [sizeLine_eq]; exact Nat.le_of_ble_eq_true rfl)) ⟨rfl, rfl⟩
    · refine sds_nil ?_
      replace h := bnd h
      obtain ⟨t3, h3, h⟩ := h
      replace h := bnd h
      obtain ⟨t4, h4, h⟩ := h
      refine sds_set 3 (ed_subM (ed_blt (cb_lenM h3) (ad_cons (ed_v rfl (.inl rfl) rfl rfl) ad_nil rfl) f_len boot_len rfl (by decide) rfl rfl rfl) ed_int h4) ?_ nd rfl (.inl rfl) rfl (.inl rfl)
      refine sds_eq (ρ1 := ⟨0, [some (.d a0), some (.d a1), some (.d a2), some (.d t4)], []⟩) ?_ rfl
      replace h := bnd h
      obtain ⟨t5, h5, h⟩ := h
      replace h := bnd h
      obtain ⟨t6, h6, h⟩ := h
      replace h := bnd h
      obtain ⟨t7, h7, h⟩ := h
      replace h := bnd h
      obtain ⟨t8, h8, h⟩ := h
      cases h
      exact sds_ret (ed_tup (ad_cons (ed_subM (ed_v rfl (.inl rfl) rfl rfl) (ed_call cg_right_end (ad_cons (ed_call cg_mirrored (ad_cons (ed_v rfl (.inl rfl) rfl rfl) ad_nil rfl) allD1 ⟨_, rfl, rfl, rfl, _, rfl, h5⟩ rfl rfl rfl rfl) (ad_cons (ed_subM (ed_v rfl (.inl rfl) rfl rfl) (ed_v rfl (.inl rfl) rfl rfl) h6) ad_nil rfl) rfl) allD2 ⟨_, _, rfl, rfl, rfl, _, rfl, h7⟩ rfl rfl rfl rfl) h8) (ad_cons (ed_v rfl (.inl rfl) rfl rfl) ad_nil rfl) rfl) allD2 (by rw [sizeLine_eq]; exact Nat.le_of_ble_eq_true rfl)) ⟨rfl, rfl⟩
end
theorem CG_run_of {P : Program} {w : World} {K : PySem.W.Frag} {mg : Str → Option Value} {base : Heap} {A : Around} {k : Nat} (T : Tx K mg) (hr : Room k A) (h : 2 ≤ k) : CGs P w K mg base A "run_of" (R_run_of (He.ga K)) := ⟨_, _, ok_run_of T, hr.mono h, T.g_run_of, kp_of T.d_run_of⟩

/-! Row.__add__ -/
noncomputable def m_Row_add (a0 : D) (a1 : D) : Option (D) :=
  (dAddX a0 a1).bind fun t1 => (m_row_of t1).bind fun t2 => some t2
def R_Row_add (G : Str → Addr) : FSpec := fun xs os r os' => ∃ (a0 : D) (a1 : D) , xs = [.d (rowV (G "Row") a0), .d (rowV (G "Row") a1)] ∧ os = [] ∧ os' = [] ∧ ∃ t, r = (rowV (G "Row") t) ∧ m_Row_add a0 a1 = some t
section
variable {P : Program} {w : World} {K : PySem.W.Frag} {mg : Str → Option Value} {base : Heap}
set_option maxHeartbeats 4000000 in
theorem ok_Row_add (T : Tx K mg) : FnR P w K mg base CX0 6 (He.ma K (He.ga K "Row") "__add__") (spF K (R_Row_add (He.ga K))) := by
  obtain ⟨fd, F⟩ := T.d_Row_add
  have nd := sc_Row_add.nd
  have hb : Binds K fd ["self", "other"] [] := F.bindsN fun _ _ _ _ _ _ us hl => match us, hl with | [_, _], _ => rfl
  refine fn_D F sc_Row_add hb ?_ ?_
  · rintro xs os r os' ⟨a0, a1, rfl, rfl, rfl, t, rfl, _⟩
    exact ⟨rfl, rfl, by simp⟩
  · rintro cdv A outer s_ H E hr xs os r os' ⟨a0, a1, rfl, rfl, rfl, t, rfl, h⟩ _
    have cg_row_of := CG_row_of (P := P) (w := w) (base := base) T hr (by decide)
    have k_Row := T.c_Row
    have na_Row_blocks := T.na_Row_blocks
    unfold m_Row_add at h
    refine sds_eq (ρ1 := ⟨0, [some (.d (rowV (He.ga K "Row") a0)), some (.d (rowV (He.ga K "Row") a1))], []⟩) ?_ rfl
    replace h := bnd h
    obtain ⟨t1, h1, h⟩ := h
    replace h := bnd h
    obtain ⟨t2, h2, h⟩ := h
    cases h
    exact sds_ret (ed_call cg_row_of (ad_cons (ed_addX (ed_fld 0 (ed_v rfl (.inl rfl) rfl rfl) k_Row na_Row_blocks rfl rfl) (ed_fld 0 (ed_v rfl (.inl rfl) rfl rfl) k_Row na_Row_blocks rfl rfl) h1) ad_nil rfl) allD1 ⟨_, rfl, rfl, rfl, _, rfl, h2⟩ rfl rfl rfl rfl) ⟨rfl, rfl⟩
end
theorem CS_Row_add {P : Program} {w : World} {K : PySem.W.Frag} {mg : Str → Option Value} {base : Heap} {A : Around} {k : Nat} (T : Tx K mg) (hr : Room k A) (h : 7 ≤ k) : CSs P w K mg base A (He.ga K "Row") "__add__" (R_Row_add (He.ga K)) := ⟨_, _, ok_Row_add T, hr.mono h, T.m_Row_add.at_, T.m_Row_add.fn, T.sf_Row⟩

/-! check_push -/
noncomputable def m_check_push (a0 : D) (a1 : D) (a2 : D) (a3 : D) : Option (D) :=
  (dUn2 a2).bind fun z => (match z with | (x1, x2) => (m_Row_check_stone a0 x1).bind fun t3 => (m_check_side x2).bind fun t4 => (dNinX x1 a3).bind fun t5 => cond t5 (none) (some .non))
def R_check_push (G : Str → Addr) : FSpec := fun xs os r os' => ∃ (a0 : D) (a1 : D) (a2 : D) (a3 : D) , xs = [.d (rowV (G "Row") a0), .d a1, .d a2, .d a3] ∧ os = [] ∧ os' = [] ∧ ∃ t, r = t ∧ m_check_push a0 a1 a2 a3 = some t
section
variable {P : Program} {w : World} {K : PySem.W.Frag} {mg : Str → Option Value} {base : Heap}
set_option maxHeartbeats 4000000 in
theorem ok_check_push (T : Tx K mg) : FnR P w K mg base CX0 3 (He.ga K "check_push") (spF K (R_check_push (He.ga K))) := by
  obtain ⟨fd, F⟩ := T.d_check_push
  have nd := sc_check_push.nd
  have hb : Binds K fd ["row", "index", "push", "standing"] [] := F.bindsN fun _ _ _ _ _ _ us hl => match us, hl with | [_, _, _, _], _ => rfl
  refine fn_D F sc_check_push hb ?_ ?_
  · rintro xs os r os' ⟨a0, a1, a2, a3, rfl, rfl, rfl, t, rfl, _⟩
    exact ⟨rfl, rfl, by simp⟩
  · rintro cdv A outer s_ H E hr xs os r os' ⟨a0, a1, a2, a3, rfl, rfl, rfl, t, rfl, h⟩ _
    have cm_Row_check_stone := CM_Row_check_stone (P := P) (w := w) (base := base) T hr (by decide)
    have cg_check_side := CG_check_side (P := P) (w := w) (base := base) T hr (by decide)
    unfold m_check_push at h
    refine sds_eq (ρ1 := ⟨0, [some (.d (rowV (He.ga K "Row") a0)), some (.d a1), some (.d a2), some (.d a3), none, none], []⟩) ?_ rfl
    replace h := bnd h
    obtain ⟨⟨x1, x2⟩, h1, h⟩ := h
    refine sds_un2 4 5 (ed_v rfl (.inl rfl) rfl rfl) h1 ?_ nd rfl rfl rfl (.inl rfl) (.inl rfl) (.inl rfl) (.inl rfl) rfl rfl
    refine sds_eq (ρ1 := ⟨0, [some (.d (rowV (He.ga K "Row") a0)), some (.d a1), some (.d a2), some (.d a3), some (.d x1), some (.d x2)], []⟩) ?_ rfl
    replace h := bnd h
    obtain ⟨t3, h2, h⟩ := h
    refine sds_expr (ed_meth cm_Row_check_stone (ed_v rfl (.inl rfl) rfl rfl) (ad_cons (ed_v rfl (.inl rfl) rfl rfl) ad_nil rfl) allD1 ⟨_, _, rfl, rfl, rfl, _, rfl, h2⟩ (by decide) rfl rfl rfl) ?_ rfl
    refine sds_eq (ρ1 := ⟨0, [some (.d (rowV (He.ga K "Row") a0)), some (.d a1), some (.d a2), some (.d a3), some (.d x1), some (.d x2)], []⟩) ?_ rfl
    replace h := bnd h
    obtain ⟨t4, h3, h⟩ := h
    refine sds_expr (ed_call cg_check_side (ad_cons (ed_v rfl (.inl rfl) rfl rfl) ad_nil rfl) allD1 ⟨_, rfl, rfl, rfl, _, rfl, h3⟩ rfl rfl rfl rfl) ?_ rfl
    refine sds_eq (ρ1 := ⟨0, [some (.d (rowV (He.ga K "Row") a0)), some (.d a1), some (.d a2), some (.d a3), some (.d x1), some (.d x2)], []⟩) ?_ rfl
    replace h := bnd h
    obtain ⟨t5, h4, h⟩ := h
    refine sds_ifM (td_ninX (ed_v rfl (.inl rfl) rfl rfl) (ed_v rfl (.inl rfl) rfl rfl) h4 rfl) h (fun h => ?_) (fun h => ?_)
    · cases h
    · refine sds_nil ?_
      cases h
      exact sds_nil ⟨rfl, rfl⟩
end
theorem CG_check_push {P : Program} {w : World} {K : PySem.W.Frag} {mg : Str → Option Value} {base : Heap} {A : Around} {k : Nat} (T : Tx K mg) (hr : Room k A) (h : 3 ≤ k) : CGs P w K mg base A "check_push" (R_check_push (He.ga K)) := ⟨_, _, ok_check_push T, hr.mono h, T.g_check_push, kp_of T.d_check_push⟩

/-! falls_by -/
noncomputable def m_falls_by (a0 : D) (a1 : D) : GX.GR :=
  (dLen a0).bind fun t1 => (dRange1 t1).bind fun t2 => (dFew t2).bind fun t3 => (dEnum a1).bind fun t4 => GX.forG (fun d8 => fun (s5 : D) => fun (kn6 kb7 : D → GX.GR) => (dUn2 d8).bind fun z => (match z with | (x9, x10) => (m_check_push a0 x9 x10 s5).bind fun t11 => (dUn2 x10).bind fun z => (match z with | (x12, x13) => (dSeq s5).bind fun t14 => (lcG (fun d15 => (dIx a0 d15).bind fun t16 => some (some t16)) t14).bind fun t17 => (m_row_of (.lst t17)).bind fun t18 => (dIndex s5 x12).bind fun t19 => (m_run_of t18 t19 x13).bind fun t20 => (dUn2 t20).bind fun z => (match z with | (x21, x22) => (decInt x21).bind fun t23 => (dAddX x22 (.int 1)).bind fun t24 => (decInt t24).bind fun t25 => (dCutX s5 (some t23) (some t25)).bind fun t26 => GX.gY t26 ((decInt x21).bind fun t27 => (dCutX s5 none (some t27)).bind fun t28 => (dAddX x22 (.int 1)).bind fun t29 => (decInt t29).bind fun t30 => (dCutX s5 (some t30) none).bind fun t31 => (dAddX t28 t31).bind fun t32 => kn6 t32))))) t4 (.lst t3) (fun (s33 : D) => some ([], true))
def R_falls_by (G : Str → Addr) : GX.GSpec := fun ds outs done => ∃ (a0 : D) (a1 : D) (b_ : Bool), ds = [(rowV (G "Row") a0), a1] ∧ m_falls_by a0 a1 = some (outs, b_) ∧ done = GX.ofB b_
section
variable {P : Program} {w : World} {K : PySem.W.Frag} {mg : Str → Option Value} {base : Heap}
set_option maxHeartbeats 4000000 in
theorem ok_falls_by (T : Tx K mg) : GX.GFnD P w K mg base 6 (He.ga K "falls_by") (GX.starG (R_falls_by (He.ga K))) := by
  obtain ⟨fd, F⟩ := T.d_falls_by
  have nd := sc_falls_by.nd
  refine GX.gfn_star F sc_falls_by (fun _ _ _ _ _ _ _ => rfl) (fun _ _ _ _ _ _ _ _ _ => rfl) ?_
  rintro cdv Aw outer pn L hr ds outs done ⟨a0, a1, b_, rfl, h, rfl⟩ lt
  have rem : GX.Rem outs [] outs := GX.Rem.start
  unfold m_falls_by at h
  refine GX.gds_eq (ρ1 := ⟨0, [some (.d (rowV (He.ga K "Row") a0)), some (.d a1), none, none, none, none, none, none, none, none, none], []⟩) ?_ rfl
  refine GX.gds_plR hr (fun s0_ H0_ hr_ => ?_)
  have k_Row := T.c_Row
  have na_Row_blocks := T.na_Row_blocks
  have f_len := T.f_len
  have f_list := T.f_list
  have f_range := T.f_range
  have f_enumerate := T.f_enumerate
  have cg_check_push := CG_check_push (P := P) (w := w) (base := base) T hr_ (by decide)
  have cg_row_of := CG_row_of (P := P) (w := w) (base := base) T hr_ (by decide)
  have cg_run_of := CG_run_of (P := P) (w := w) (base := base) T hr_ (by decide)
  have hu65 := room_u65 hr_
  replace h := bnd h
  obtain ⟨t1, h1, h⟩ := h
  replace h := bnd h
  obtain ⟨t2, h2, h⟩ := h
  replace h := bnd h
  obtain ⟨t3, h3, h⟩ := h
  refine sds_set 2 (ed_listRg1 rfl (ed_blt (cb_lenM h1) (ad_cons (ed_fld 0 (ed_v rfl (by walk_at "vis") rfl rfl) k_Row na_Row_blocks rfl rfl) ad_nil rfl) f_len boot_len rfl (by decide) rfl rfl rfl) h2 h3 rfl f_list rfl f_range rfl rfl) ?_ nd rfl (.inl rfl) rfl (.inl rfl)
  refine sds_eq (ρ1 := ⟨0, [some (.d (rowV (He.ga K "Row") a0)), some (.d a1), some (.d (.lst t3)), none, none, none, none, none, none, none, none], []⟩) ?_ rfl
  refine sds_nil ⟨rfl, ?_⟩
  refine GX.gds_eq (ρ1 := ⟨0, [some (.d (rowV (He.ga K "Row") a0)), some (.d a1), some (.d (.lst t3)), none, none, none, none, none, none, none, none], []⟩) ?_ rfl
  replace h := bnd h
  obtain ⟨t4, h4, h⟩ := h
  refine GX.gds_forC (vs := [3, 4]) (fun (s5 : D) => (⟨0, [some (.d (rowV (He.ga K "Row") a0)), some (.d a1), some (.d s5), none, none, none, none, none, none, none, none], []⟩ : DL.Env)) (fun _ => rfl) _ hr h rem lt rfl ⟨rfl, (wkK (wkK (wkK (wkF (wkF (wkF (wkF (wkF (wkF (wkF (wkF wk0))))))))))), _, rfl⟩ ?_ ?_ ?_ (fun _ => rfl)
  · intro s0_ H0_ hr_
    have k_Row := T.c_Row
    have na_Row_blocks := T.na_Row_blocks
    have f_len := T.f_len
    have f_list := T.f_list
    have f_range := T.f_range
    have f_enumerate := T.f_enumerate
    have cg_check_push := CG_check_push (P := P) (w := w) (base := base) T hr_ (by decide)
    have cg_row_of := CG_row_of (P := P) (w := w) (base := base) T hr_ (by decide)
    have cg_run_of := CG_run_of (P := P) (w := w) (base := base) T hr_ (by decide)
    have hu65 := room_u65 hr_
    exact (it_enumM (ed_v rfl (.inl rfl) rfl rfl) h4 rfl f_enumerate rfl)
  · rintro d8 s5 kn6 o_ l_ h rem lt
    try dsimp only at h
    replace h := bnd h
    obtain ⟨⟨x9, x10⟩, h5, h⟩ := h
    obtain rfl := dUn2_ok h5
    refine ⟨_, fun s0_ H0_ hr_ => (tg_tup rfl (tgl_cons (tg_name 3 nd rfl (.inl rfl) (.inl rfl)) (tgl_cons (tg_name 4 nd rfl (.inl rfl) (.inl rfl)) tgl_nil rfl) rfl) rfl rfl), ?_⟩
    refine GX.gds_eq (ρ1 := ⟨0, [some (.d (rowV (He.ga K "Row") a0)), some (.d a1), some (.d s5), some (.d x9), some (.d x10), none, none, none, none, none, none], []⟩) ?_ rfl
    refine GX.gds_plR hr (fun s0_ H0_ hr_ => ?_)
    have k_Row := T.c_Row
    have na_Row_blocks := T.na_Row_blocks
    have f_len := T.f_len
    have f_list := T.f_list
    have f_range := T.f_range
    have f_enumerate := T.f_enumerate
    have cg_check_push := CG_check_push (P := P) (w := w) (base := base) T hr_ (by decide)
    have cg_row_of := CG_row_of (P := P) (w := w) (base := base) T hr_ (by decide)
    have cg_run_of := CG_run_of (P := P) (w := w) (base := base) T hr_ (by decide)
    have hu65 := room_u65 hr_
    replace h := bnd h
    obtain ⟨t11, h6, h⟩ := h
    refine sds_expr (ed_call cg_check_push (ad_cons (ed_v rfl (by walk_at "vis") rfl rfl) (ad_cons (ed_v rfl (.inl rfl) rfl rfl) (ad_cons (ed_v rfl (.inl rfl) rfl rfl) (ad_cons (ed_v rfl (.inl rfl) rfl rfl) ad_nil rfl) rfl) rfl) rfl) allD4 ⟨_, _, _, _, rfl, rfl, rfl, _, rfl, h6⟩ rfl rfl rfl rfl) ?_ rfl
    refine sds_eq (ρ1 := ⟨0, [some (.d (rowV (He.ga K "Row") a0)), some (.d a1), some (.d s5), some (.d x9), some (.d x10), none, none, none, none, none, none], []⟩) ?_ rfl
    refine sds_nil ⟨rfl, ?_⟩
    refine GX.gds_eq (ρ1 := ⟨0, [some (.d (rowV (He.ga K "Row") a0)), some (.d a1), some (.d s5), some (.d x9), some (.d x10), none, none, none, none, none, none], []⟩) ?_ rfl
    refine GX.gds_plR hr (fun s0_ H0_ hr_ => ?_)
    have k_Row := T.c_Row
    have na_Row_blocks := T.na_Row_blocks
    have f_len := T.f_len
    have f_list := T.f_list
    have f_range := T.f_range
    have f_enumerate := T.f_enumerate
    have cg_check_push := CG_check_push (P := P) (w := w) (base := base) T hr_ (by decide)
    have cg_row_of := CG_row_of (P := P) (w := w) (base := base) T hr_ (by decide)
    have cg_run_of := CG_run_of (P := P) (w := w) (base := base) T hr_ (by decide)
    have hu65 := room_u65 hr_
    replace h := bnd h
    obtain ⟨⟨x12, x13⟩, h7, h⟩ := h
    refine sds_un2 5 6 (ed_v rfl (.inl rfl) rfl rfl) h7 ?_ nd rfl rfl rfl (.inl rfl) (.inl rfl) (.inl rfl) (.inl rfl) rfl rfl
    refine sds_eq (ρ1 := ⟨0, [some (.d (rowV (He.ga K "Row") a0)), some (.d a1), some (.d s5), some (.d x9), some (.d x10), some (.d x12), some (.d x13), none, none, none, none], []⟩) ?_ rfl
    refine sds_nil ⟨rfl, ?_⟩
    refine GX.gds_eq (ρ1 := ⟨0, [some (.d (rowV (He.ga K "Row") a0)), some (.d a1), some (.d s5), some (.d x9), some (.d x10), some (.d x12), some (.d x13), none, none, none, none], []⟩) ?_ rfl
    refine GX.gds_plR hr (fun s0_ H0_ hr_ => ?_)
    have k_Row := T.c_Row
    have na_Row_blocks := T.na_Row_blocks
    have f_len := T.f_len
    have f_list := T.f_list
    have f_range := T.f_range
    have f_enumerate := T.f_enumerate
    have cg_check_push := CG_check_push (P := P) (w := w) (base := base) T hr_ (by decide)
    have cg_row_of := CG_row_of (P := P) (w := w) (base := base) T hr_ (by decide)
    have cg_run_of := CG_run_of (P := P) (w := w) (base := base) T hr_ (by decide)
    have hu65 := room_u65 hr_
    replace h := bnd h
    obtain ⟨t14, h8, h⟩ := h
    replace h := bnd h
    obtain ⟨t17, h10, h⟩ := h
    replace h := bnd h
    obtain ⟨t18, h11, h⟩ := h
    refine sds_set 7 (ed_call cg_row_of (ad_cons (ed_lcC (own := [("number", 10)]) (it_seqM (ed_v rfl (.inl rfl) rfl rfl) h8) h10 (fun d15 o h => by replace h := bnd h; obtain ⟨t16, h9, h⟩ := h; exact lcP0 (tg_blk 10 nd rfl rfl) (fun _ _ _ _ _ => (ed_ixM (ed_fld 0 (ed_v rfl (by walk_at "vis") rfl rfl) k_Row na_Row_blocks rfl rfl) (ed_v rfl (by walk_at "vis") rfl rfl) h9 (fun _ _ => rfl))) h) (by decide) (blkOk_by rfl) nd rfl (fun _ => rfl)) ad_nil rfl) allD1 ⟨_, rfl, rfl, rfl, _, rfl, h11⟩ rfl rfl rfl rfl) ?_ nd rfl (.inl rfl) rfl (.inl rfl)
    refine sds_eq (ρ1 := ⟨0, [some (.d (rowV (He.ga K "Row") a0)), some (.d a1), some (.d s5), some (.d x9), some (.d x10), some (.d x12), some (.d x13), some (.d (rowV (He.ga K "Row") t18)), none, none, none], []⟩) ?_ rfl
    refine sds_nil ⟨rfl, ?_⟩
    refine GX.gds_eq (ρ1 := ⟨0, [some (.d (rowV (He.ga K "Row") a0)), some (.d a1), some (.d s5), some (.d x9), some (.d x10), some (.d x12), some (.d x13), some (.d (rowV (He.ga K "Row") t18)), none, none, none], []⟩) ?_ rfl
    refine GX.gds_plR hr (fun s0_ H0_ hr_ => ?_)
    have k_Row := T.c_Row
    have na_Row_blocks := T.na_Row_blocks
    have f_len := T.f_len
    have f_list := T.f_list
    have f_range := T.f_range
    have f_enumerate := T.f_enumerate
    have cg_check_push := CG_check_push (P := P) (w := w) (base := base) T hr_ (by decide)
    have cg_row_of := CG_row_of (P := P) (w := w) (base := base) T hr_ (by decide)
    have cg_run_of := CG_run_of (P := P) (w := w) (base := base) T hr_ (by decide)
    have hu65 := room_u65 hr_
    replace h := bnd h
    obtain ⟨t19, h12, h⟩ := h
    replace h := bnd h
    obtain ⟨t20, h13, h⟩ := h
    replace h := bnd h
    obtain ⟨⟨x21, x22⟩, h14, h⟩ := h
    refine sds_un2 8 9 (ed_call cg_run_of (ad_cons (ed_fld 0 (ed_v rfl (.inl rfl) rfl rfl) k_Row na_Row_blocks rfl rfl) (ad_cons (ed_indexM hu65 (ed_v rfl (.inl rfl) rfl rfl) (ed_v rfl (.inl rfl) rfl rfl) h12 rfl rfl rfl rfl rfl) (ad_cons (ed_v rfl (.inl rfl) rfl rfl) ad_nil rfl) rfl) rfl) allD3 ⟨_, _, _, rfl, rfl, rfl, _, rfl, h13⟩ rfl rfl rfl rfl) h14 ?_ nd rfl rfl rfl (.inl rfl) (.inl rfl) (.inl rfl) (.inl rfl) rfl rfl
    refine sds_eq (ρ1 := ⟨0, [some (.d (rowV (He.ga K "Row") a0)), some (.d a1), some (.d s5), some (.d x9), some (.d x10), some (.d x12), some (.d x13), some (.d (rowV (He.ga K "Row") t18)), some (.d x21), some (.d x22), none], []⟩) ?_ rfl
    refine sds_nil ⟨rfl, ?_⟩
    refine GX.gds_eq (ρ1 := ⟨0, [some (.d (rowV (He.ga K "Row") a0)), some (.d a1), some (.d s5), some (.d x9), some (.d x10), some (.d x12), some (.d x13), some (.d (rowV (He.ga K "Row") t18)), some (.d x21), some (.d x22), none], []⟩) ?_ rfl
    replace h := bnd h
    obtain ⟨t23, h15, h⟩ := h
    replace h := bnd h
    obtain ⟨t24, h16, h⟩ := h
    replace h := bnd h
    obtain ⟨t25, h17, h⟩ := h
    replace h := bnd h
    obtain ⟨t26, h18, h⟩ := h
    refine GX.gds_yieldM (ρ1 := ⟨0, [some (.d (rowV (He.ga K "Row") a0)), some (.d a1), some (.d s5), some (.d x9), some (.d x10), some (.d x12), some (.d x13), some (.d (rowV (He.ga K "Row") t18)), some (.d x21), some (.d x22), none], []⟩) hr h rem ?_ rfl ?_
    · intro s0_ H0_ hr_
      have k_Row := T.c_Row
      have na_Row_blocks := T.na_Row_blocks
      have f_len := T.f_len
      have f_list := T.f_list
      have f_range := T.f_range
      have f_enumerate := T.f_enumerate
      have cg_check_push := CG_check_push (P := P) (w := w) (base := base) T hr_ (by decide)
      have cg_row_of := CG_row_of (P := P) (w := w) (base := base) T hr_ (by decide)
      have cg_run_of := CG_run_of (P := P) (w := w) (base := base) T hr_ (by decide)
      have hu65 := room_u65 hr_
      exact (ed_sliceX (ed_v rfl (.inl rfl) rfl rfl) (pd_someM (ed_v rfl (.inl rfl) rfl rfl) h15) (pd_someM (ed_addX (ed_v rfl (.inl rfl) rfl rfl) ed_int h16) h17) h18)
    · intro l_ h rem lt
      refine GX.gds_eq (ρ1 := ⟨0, [some (.d (rowV (He.ga K "Row") a0)), some (.d a1), some (.d s5), some (.d x9), some (.d x10), some (.d x12), some (.d x13), some (.d (rowV (He.ga K "Row") t18)), some (.d x21), some (.d x22), none], []⟩) ?_ rfl
      refine GX.gds_plR hr (fun s0_ H0_ hr_ => ?_)
      have k_Row := T.c_Row
      have na_Row_blocks := T.na_Row_blocks
      have f_len := T.f_len
      have f_list := T.f_list
      have f_range := T.f_range
      have f_enumerate := T.f_enumerate
      have cg_check_push := CG_check_push (P := P) (w := w) (base := base) T hr_ (by decide)
      have cg_row_of := CG_row_of (P := P) (w := w) (base := base) T hr_ (by decide)
      have cg_run_of := CG_run_of (P := P) (w := w) (base := base) T hr_ (by decide)
      have hu65 := room_u65 hr_
      replace h := bnd h
      obtain ⟨t27, h19, h⟩ := h
      replace h := bnd h
      obtain ⟨t28, h20, h⟩ := h
      replace h := bnd h
      obtain ⟨t29, h21, h⟩ := h
      replace h := bnd h
      obtain ⟨t30, h22, h⟩ := h
      replace h := bnd h
      obtain ⟨t31, h23, h⟩ := h
      replace h := bnd h
      obtain ⟨t32, h24, h⟩ := h
      refine sds_set 2 (ed_addX (ed_sliceX (ed_v rfl (.inl rfl) rfl rfl) pd_none (pd_someM (ed_v rfl (.inl rfl) rfl rfl) h19) h20) (ed_sliceX (ed_v rfl (.inl rfl) rfl rfl) (pd_someM (ed_addX (ed_v rfl (.inl rfl) rfl rfl) ed_int h21) h22) pd_none h23) h24) ?_ nd rfl (.inl rfl) rfl (.inl rfl)
      refine sds_eq (ρ1 := ⟨0, [some (.d (rowV (He.ga K "Row") a0)), some (.d a1), some (.d t32), some (.d x9), some (.d x10), some (.d x12), some (.d x13), some (.d (rowV (He.ga K "Row") t18)), some (.d x21), some (.d x22), none], []⟩) ?_ rfl
      refine sds_nil ⟨rfl, ?_⟩
      refine GX.gds_eq (ρ1 := ⟨0, [some (.d (rowV (He.ga K "Row") a0)), some (.d a1), some (.d t32), some (.d x9), some (.d x10), some (.d x12), some (.d x13), some (.d (rowV (He.ga K "Row") t18)), some (.d x21), some (.d x22), none], []⟩) ?_ rfl
      exact GX.gds_nil ⟨rfl, t32, _, ⟨rfl, (wkK (wkK (wkK (wkF (wkF (wkF (wkF (wkF (wkF (wkF (wkF wk0))))))))))), _, rfl⟩, h, rem, lt⟩
  · rintro s33 o_ l_ h rem lt
    try dsimp only at h
    refine GX.gds_eq (ρ1 := ⟨0, [some (.d (rowV (He.ga K "Row") a0)), some (.d a1), some (.d s33), none, none, none, none, none, none, none, none], []⟩) ?_ rfl
    exact GX.gds_endM h rem
end
theorem CG_falls_by {P : Program} {w : World} {K : PySem.W.Frag} {mg : Str → Option Value} {base : Heap} {A : Around} {k : Nat} (T : Tx K mg) (hr : Room k A) (h : 10 ≤ k) : GX.CGGs P w K mg base A "falls_by" (GX.starG (R_falls_by (He.ga K))) := ⟨_, _, ok_falls_by T, hr.mono h, T.g_falls_by, kp_of T.d_falls_by⟩

/-! i.AlreadyFallen -/
section
variable {P : Program} {w : World} {K : PySem.W.Frag} {mg : Str → Option Value} {base : Heap}
set_option maxHeartbeats 4000000 in
theorem X1_AlreadyFallen {A : Around} {k : Nat} (T : Tx K mg) (hr : Room k A) (h : 2 ≤ k) : XC1 P w K mg base A (He.ga K "AlreadyFallen") "index" := by
  obtain ⟨fd, F⟩ := T.d_AlreadyFallen_init
  have hb : Binds K fd ["self", "index"] [] := F.bindsN fun _ _ _ _ _ _ us hl => match us, hl with | [_, _], _ => rfl
  have ok : FnOk P w K mg base CX0 1 (He.ma K (He.ga K "AlreadyFallen") "__init__") fd ["self", "index"] (spI1 K "index") :=
    ok_init1 (k := 0) F sc_AlreadyFallen_init rfl (baseB_ok T.g_StoneError T.bcx) (.inl rfl) (.inl rfl) (fun cdv A outer s H E => ⟨jtxt3 rfl (.inl rfl) (by decide +kernel) (by decide +kernel) (by decide) (by decide), rfl, rfl, rfl, rfl, _, rfl⟩) (by decide) (by decide) (by decide)
  exact ⟨T.ox_AlreadyFallen, T.nofs _ (by decide +kernel) _ (by decide +kernel), _, _, fd, _, T.in_AlreadyFallen, T.it_AlreadyFallen, ok, hr.mono h, hb⟩
end

/-! x.Row.check_stone -/
noncomputable def x_Row_check_stone (a0 : D) (a1 : D) : Option XN :=
  (dLen a0).bind fun t1 => (dSub t1 (.int 1)).bind fun t2 => (m_is_integer a1 (.int 0) t2).bind fun t3 => (dB t3).bind fun t4 => cond (!t4) (some ⟨"UnknownStone", [], []⟩) (none)
def RX_Row_check_stone (G : Str → Addr) : XSpec := fun xs os x os' => ∃ (a0 : D) (a1 : D), xs = [.d (rowV (G "Row") a0), .d a1] ∧ os = [] ∧ os' = [] ∧ ∃ t : XN, x = t.xv G ∧ x_Row_check_stone a0 a1 = some t
section
variable {P : Program} {w : World} {K : PySem.W.Frag} {mg : Str → Option Value} {base : Heap}
set_option maxHeartbeats 4000000 in
theorem xok_Row_check_stone (T : Tx K mg) : FnR P w K mg base (L2.CX P w) 2 (He.ma K (He.ga K "Row") "check_stone") (spX K (RX_Row_check_stone (He.ga K))) := by
  obtain ⟨fd, F⟩ := T.d_Row_check_stone
  have nd := sc_Row_check_stone.nd
  have hb : Binds K fd ["self", "stone"] [] := F.bindsN fun _ _ _ _ _ _ us hl => match us, hl with | [_, _], _ => rfl
  refine fnX_D F sc_Row_check_stone hb ?_ ?_
  · rintro xs os r os' ⟨a0, a1, rfl, rfl, rfl, t, rfl, _⟩
    exact ⟨rfl, rfl, by simp⟩
  · rintro cdv A outer s_ H E hr xs os r os' ⟨a0, a1, rfl, rfl, rfl, t, rfl, h⟩ _
    have tk : Lets (cxOf (L2.CX P w) P w K mg base n_Row_check_stone "Row.check_stone" (defScope s_Row_check_stone) (He.ma K (He.ga K "Row") "check_stone") cdv A outer s_ H E) E := cx_lets
    have cg_is_integer := CG_is_integer (P := P) (w := w) (base := base) T hr (by decide)
    have f_len := T.f_len
    have k_Row := T.c_Row
    have na_Row_blocks := T.na_Row_blocks
    have g_UnknownStone := T.g_UnknownStone
    have xc_UnknownStone := T.xc_UnknownStone
    unfold x_Row_check_stone at h
    refine sx_eq (ρ1 := ⟨0, [some (.d (rowV (He.ga K "Row") a0)), some (.d a1)], []⟩) ?_ rfl
    replace h := bnd h
    obtain ⟨t1, h1, h⟩ := h
    replace h := bnd h
    obtain ⟨t2, h2, h⟩ := h
    replace h := bnd h
    obtain ⟨t3, h3, h⟩ := h
    replace h := bnd h
    obtain ⟨t4, h4, h⟩ := h
    refine sx_ifM (td_not (td_valM (ed_call cg_is_integer (ad_cons (ed_v rfl (.inl rfl) rfl rfl) (ad_cons ed_int (ad_cons (ed_subM (ed_blt (cb_lenM h1) (ad_cons (ed_fld 0 (ed_v rfl (.inl rfl) rfl rfl) k_Row na_Row_blocks rfl rfl) ad_nil rfl) f_len boot_len rfl (by decide) rfl rfl rfl) ed_int h2) ad_nil rfl) rfl) rfl) allD3 ⟨_, _, _, rfl, rfl, rfl, _, rfl, h3⟩ rfl rfl rfl rfl) h4 (fun _ => rfl))) h (fun h => ?_) (fun h => ?_)
    · cases h
      exact sx_raise0 rfl tk xc_UnknownStone g_UnknownStone rfl rfl
    · refine sx_nil ?_
      cases h
end
theorem XM_Row_check_stone {P : Program} {w : World} {K : PySem.W.Frag} {mg : Str → Option Value} {base : Heap} {A : Around} {k : Nat} (T : Tx K mg) (hr : Room k A) (h : 2 ≤ k) : XMs P w K mg base A (He.ga K "Row") "check_stone" (RX_Row_check_stone (He.ga K)) := ⟨T.c_Row, _, _, xok_Row_check_stone T, hr.mono h, T.m_Row_check_stone⟩

/-! x.check_side -/
noncomputable def x_check_side (a0 : D) : Option XN :=
  (dIsi Kd.isStr a0).bind fun t1 => (dB (.bl t1)).bind fun t2 => (cond (!t2) (some true) ((dNinX a0 (.ktp [.str "left", .str "right"])).bind fun t3 => some t3)).bind fun t4 => cond t4 (some ⟨"InvalidSide", [], []⟩) (none)
def RX_check_side (G : Str → Addr) : XSpec := fun xs os x os' => ∃ (a0 : D), xs = [.d a0] ∧ os = [] ∧ os' = [] ∧ ∃ t : XN, x = t.xv G ∧ x_check_side a0 = some t
section
variable {P : Program} {w : World} {K : PySem.W.Frag} {mg : Str → Option Value} {base : Heap}
set_option maxHeartbeats 4000000 in
theorem xok_check_side (T : Tx K mg) : FnR P w K mg base (L2.CX P w) 1 (He.ga K "check_side") (spX K (RX_check_side (He.ga K))) := by
  obtain ⟨fd, F⟩ := T.d_check_side
  have nd := sc_check_side.nd
  have hb : Binds K fd ["side"] [] := F.bindsN fun _ _ _ _ _ _ us hl => match us, hl with | [_], _ => rfl
  refine fnX_D F sc_check_side hb ?_ ?_
  · rintro xs os r os' ⟨a0, rfl, rfl, rfl, t, rfl, _⟩
    exact ⟨rfl, rfl, by simp⟩
  · rintro cdv A outer s_ H E hr xs os r os' ⟨a0, rfl, rfl, rfl, t, rfl, h⟩ _
    have tk : Lets (cxOf (L2.CX P w) P w K mg base n_check_side "check_side" (defScope s_check_side) (He.ga K "check_side") cdv A outer s_ H E) E := cx_lets
    have f_str := T.f_str
    have f_isinstance := T.f_isinstance
    have g_SIDES := T.g_SIDES
    have g_InvalidSide := T.g_InvalidSide
    have xc_InvalidSide := T.xc_InvalidSide
    unfold x_check_side at h
    refine sx_eq (ρ1 := ⟨0, [some (.d a0)], []⟩) ?_ rfl
    replace h := bnd h
    obtain ⟨t1, h1, h⟩ := h
    replace h := bnd h
    obtain ⟨t2, h2, h⟩ := h
    replace h := bnd h
    obtain ⟨t4, h4, h⟩ := h
    refine sx_ifM (TW.td (tw_orM (td_not (td_valM (ed_blt (cb_isiM kit_str h1) (ad_cons (ed_v rfl (.inl rfl) rfl rfl) (ad_cons (ed_bty f_str rfl boot_str (by decide) rfl) ad_nil rfl) rfl) f_isinstance boot_isinstance rfl (by decide) rfl rfl rfl) h2 (fun _ => rfl))) h4 (fun h => by replace h := bnd h; obtain ⟨t3, h3, h⟩ := h; exact TW.sm h (tw_or1 (td_ninX (ed_v rfl (.inl rfl) rfl rfl) (ed_gtup g_SIDES T.t_SIDES (fun S => .cons (.str _) (.cons (.str _) .nil)) rfl rfl) h3 rfl))))) h (fun h => ?_) (fun h => ?_)
    · cases h
      exact sx_raise0 rfl tk xc_InvalidSide g_InvalidSide rfl rfl
    · refine sx_nil ?_
      cases h
end
theorem XG_check_side {P : Program} {w : World} {K : PySem.W.Frag} {mg : Str → Option Value} {base : Heap} {A : Around} {k : Nat} (T : Tx K mg) (hr : Room k A) (h : 1 ≤ k) : XGs P w K mg base A "check_side" (RX_check_side (He.ga K)) := ⟨_, _, xok_check_side T, hr.mono h, T.g_check_side, kp_of T.d_check_side⟩

/-! x.check_push -/
noncomputable def x_check_push (a0 : D) (a1 : D) (a2 : D) (a3 : D) : Option XN :=
  (dUn2 a2).bind fun z => (match z with | (x1, x2) => orX (x_Row_check_stone a0 x1) ((m_Row_check_stone a0 x1).bind fun t3 => orX (x_check_side x2) ((m_check_side x2).bind fun t4 => (dNinX x1 a3).bind fun t5 => cond t5 ((dSmall a1).bind fun t6 => some ⟨"AlreadyFallen", ["index"], [.int t6]⟩) (none))))
def RX_check_push (G : Str → Addr) : XSpec := fun xs os x os' => ∃ (a0 : D) (a1 : D) (a2 : D) (a3 : D), xs = [.d (rowV (G "Row") a0), .d a1, .d a2, .d a3] ∧ os = [] ∧ os' = [] ∧ ∃ t : XN, x = t.xv G ∧ x_check_push a0 a1 a2 a3 = some t
section
variable {P : Program} {w : World} {K : PySem.W.Frag} {mg : Str → Option Value} {base : Heap}
set_option maxHeartbeats 4000000 in
theorem xok_check_push (T : Tx K mg) : FnR P w K mg base (L2.CX P w) 3 (He.ga K "check_push") (spX K (RX_check_push (He.ga K))) := by
  obtain ⟨fd, F⟩ := T.d_check_push
  have nd := sc_check_push.nd
  have hb : Binds K fd ["row", "index", "push", "standing"] [] := F.bindsN fun _ _ _ _ _ _ us hl => match us, hl with | [_, _, _, _], _ => rfl
  refine fnX_D F sc_check_push hb ?_ ?_
  · rintro xs os r os' ⟨a0, a1, a2, a3, rfl, rfl, rfl, t, rfl, _⟩
    exact ⟨rfl, rfl, by simp⟩
  · rintro cdv A outer s_ H E hr xs os r os' ⟨a0, a1, a2, a3, rfl, rfl, rfl, t, rfl, h⟩ _
    have tk : Lets (cxOf (L2.CX P w) P w K mg base n_check_push "check_push" (defScope s_check_push) (He.ga K "check_push") cdv A outer s_ H E) E := cx_lets
    have cm_Row_check_stone := CM_Row_check_stone (P := P) (w := w) (base := base) T hr (by decide)
    have xm_Row_check_stone := XM_Row_check_stone (P := P) (w := w) (base := base) T hr (by decide)
    have cg_check_side := CG_check_side (P := P) (w := w) (base := base) T hr (by decide)
    have xg_check_side := XG_check_side (P := P) (w := w) (base := base) T hr (by decide)
    have g_AlreadyFallen := T.g_AlreadyFallen
    have x1_AlreadyFallen := X1_AlreadyFallen (P := P) (w := w) (base := base) T hr (by decide)
    unfold x_check_push at h
    refine sx_eq (ρ1 := ⟨0, [some (.d (rowV (He.ga K "Row") a0)), some (.d a1), some (.d a2), some (.d a3), none, none], []⟩) ?_ rfl
    replace h := bnd h
    obtain ⟨⟨x1, x2⟩, h1, h⟩ := h
    refine sx_step (⟨0, [some (.d (rowV (He.ga K "Row") a0)), some (.d a1), some (.d a2), some (.d a3), some (.d x1), some (.d x2)], []⟩) ?_ ?_
    · refine sds_un2 4 5 (ed_v rfl (.inl rfl) rfl rfl) h1 ?_ nd rfl rfl rfl (.inl rfl) (.inl rfl) (.inl rfl) (.inl rfl) rfl rfl
      exact sds_nil rfl
    rcases orX_or h with h | h
    · exact sx_expr (ex_meth tk xm_Row_check_stone (ed_v rfl (.inl rfl) rfl rfl) (ad_cons (ed_v rfl (.inl rfl) rfl rfl) ad_nil rfl) allD1 ⟨_, _, rfl, rfl, rfl, _, rfl, h⟩ (by decide) rfl rfl rfl) rfl rfl
    replace h := bnd h
    obtain ⟨t3, h2, h⟩ := h
    refine sx_step (⟨0, [some (.d (rowV (He.ga K "Row") a0)), some (.d a1), some (.d a2), some (.d a3), some (.d x1), some (.d x2)], []⟩) ?_ ?_
    · refine sds_expr (ed_meth cm_Row_check_stone (ed_v rfl (.inl rfl) rfl rfl) (ad_cons (ed_v rfl (.inl rfl) rfl rfl) ad_nil rfl) allD1 ⟨_, _, rfl, rfl, rfl, _, rfl, h2⟩ (by decide) rfl rfl rfl) ?_ rfl
      exact sds_nil rfl
    rcases orX_or h with h | h
    · exact sx_expr (ex_call tk xg_check_side (ad_cons (ed_v rfl (.inl rfl) rfl rfl) ad_nil rfl) allD1 ⟨_, rfl, rfl, rfl, _, rfl, h⟩ rfl rfl rfl rfl) rfl rfl
    replace h := bnd h
    obtain ⟨t4, h3, h⟩ := h
    refine sx_step (⟨0, [some (.d (rowV (He.ga K "Row") a0)), some (.d a1), some (.d a2), some (.d a3), some (.d x1), some (.d x2)], []⟩) ?_ ?_
    · refine sds_expr (ed_call cg_check_side (ad_cons (ed_v rfl (.inl rfl) rfl rfl) ad_nil rfl) allD1 ⟨_, rfl, rfl, rfl, _, rfl, h3⟩ rfl rfl rfl rfl) ?_ rfl
      exact sds_nil rfl
    replace h := bnd h
    obtain ⟨t5, h4, h⟩ := h
    refine sx_ifM (td_ninX (ed_v rfl (.inl rfl) rfl rfl) (ed_v rfl (.inl rfl) rfl rfl) h4 rfl) h (fun h => ?_) (fun h => ?_)
    · replace h := bnd h
      obtain ⟨t6, h5, h⟩ := h
      cases h
      obtain ⟨e_, hs_⟩ := dSmall_ok h5
      exact sx_raise1 rfl tk x1_AlreadyFallen g_AlreadyFallen rfl (ED.to (ed_v rfl (.inl rfl) rfl rfl) (congrArg VD.d e_) rfl) hs_ rfl
    · refine sx_nil ?_
      cases h
end
theorem XG_check_push {P : Program} {w : World} {K : PySem.W.Frag} {mg : Str → Option Value} {base : Heap} {A : Around} {k : Nat} (T : Tx K mg) (hr : Room k A) (h : 3 ≤ k) : XGs P w K mg base A "check_push" (RX_check_push (He.ga K)) := ⟨_, _, xok_check_push T, hr.mono h, T.g_check_push, kp_of T.d_check_push⟩

/-! x.falls_by -/
noncomputable def x_falls_by (a0 : D) (a1 : D) : GX.GRo XN :=
  (dLen a0).bind fun t1 => (dRange1 t1).bind fun t2 => (dFew t2).bind fun t3 => (dEnum a1).bind fun t4 => GX.forG (fun d8 => fun (s5 : D) => fun (kn6 kb7 : D → GX.GRo XN) => (dUn2 d8).bind fun z => (match z with | (x9, x10) => orX ((x_check_push a0 x9 x10 s5).bind fun x_ => some ([], x_)) ((m_check_push a0 x9 x10 s5).bind fun t12 => (dUn2 x10).bind fun z => (match z with | (x13, x14) => (dSeq s5).bind fun t15 => (lcG (fun d16 => (dIx a0 d16).bind fun t17 => some (some t17)) t15).bind fun t18 => (m_row_of (.lst t18)).bind fun t19 => (dIndex s5 x13).bind fun t20 => (m_run_of t19 t20 x14).bind fun t21 => (dUn2 t21).bind fun z => (match z with | (x22, x23) => (decInt x22).bind fun t24 => (dAddX x23 (.int 1)).bind fun t25 => (decInt t25).bind fun t26 => (dCutX s5 (some t24) (some t26)).bind fun t27 => GX.gY t27 ((decInt x22).bind fun t28 => (dCutX s5 none (some t28)).bind fun t29 => (dAddX x23 (.int 1)).bind fun t30 => (decInt t30).bind fun t31 => (dCutX s5 (some t31) none).bind fun t32 => (dAddX t29 t32).bind fun t33 => kn6 t33)))))) t4 (.lst t3) (fun (s34 : D) => none)
def RX_falls_by (G : Str → Addr) : GX.GSpec := fun ds outs done => ∃ (a0 : D) (a1 : D) (b_ : XN), ds = [(rowV (G "Row") a0), a1] ∧ x_falls_by a0 a1 = some (outs, b_) ∧ done = GX.exF G b_
section
variable {P : Program} {w : World} {K : PySem.W.Frag} {mg : Str → Option Value} {base : Heap}
set_option maxHeartbeats 4000000 in
theorem xok_falls_by (T : Tx K mg) : GX.GFnD P w K mg base 6 (He.ga K "falls_by") (GX.starG (RX_falls_by (He.ga K))) := by
  obtain ⟨fd, F⟩ := T.d_falls_by
  have nd := sc_falls_by.nd
  refine GX.gfn_star F sc_falls_by (fun _ _ _ _ _ _ _ => rfl) (fun _ _ _ _ _ _ _ _ _ => rfl) ?_
  rintro cdv Aw outer pn L hr ds outs done ⟨a0, a1, b_, rfl, h, rfl⟩ lt
  have rem : GX.Rem outs [] outs := GX.Rem.start
  unfold x_falls_by at h
  refine GX.gds_eq (ρ1 := ⟨0, [some (.d (rowV (He.ga K "Row") a0)), some (.d a1), none, none, none, none, none, none, none, none, none], []⟩) ?_ rfl
  refine GX.gds_plR hr (fun s0_ H0_ hr_ => ?_)
  have k_Row := T.c_Row
  have na_Row_blocks := T.na_Row_blocks
  have f_len := T.f_len
  have f_list := T.f_list
  have f_range := T.f_range
  have f_enumerate := T.f_enumerate
  have cg_check_push := CG_check_push (P := P) (w := w) (base := base) T hr_ (by decide)
  have xg_check_push := XG_check_push (P := P) (w := w) (base := base) T hr_ (by decide)
  have cg_row_of := CG_row_of (P := P) (w := w) (base := base) T hr_ (by decide)
  have cg_run_of := CG_run_of (P := P) (w := w) (base := base) T hr_ (by decide)
  have hu65 := room_u65 hr_
  replace h := bnd h
  obtain ⟨t1, h1, h⟩ := h
  replace h := bnd h
  obtain ⟨t2, h2, h⟩ := h
  replace h := bnd h
  obtain ⟨t3, h3, h⟩ := h
  refine sds_set 2 (ed_listRg1 rfl (ed_blt (cb_lenM h1) (ad_cons (ed_fld 0 (ed_v rfl (by walk_at "vis") rfl rfl) k_Row na_Row_blocks rfl rfl) ad_nil rfl) f_len boot_len rfl (by decide) rfl rfl rfl) h2 h3 rfl f_list rfl f_range rfl rfl) ?_ nd rfl (.inl rfl) rfl (.inl rfl)
  refine sds_eq (ρ1 := ⟨0, [some (.d (rowV (He.ga K "Row") a0)), some (.d a1), some (.d (.lst t3)), none, none, none, none, none, none, none, none], []⟩) ?_ rfl
  refine sds_nil ⟨rfl, ?_⟩
  refine GX.gds_eq (ρ1 := ⟨0, [some (.d (rowV (He.ga K "Row") a0)), some (.d a1), some (.d (.lst t3)), none, none, none, none, none, none, none, none], []⟩) ?_ rfl
  replace h := bnd h
  obtain ⟨t4, h4, h⟩ := h
  refine GX.gds_forC (vs := [3, 4]) (fun (s5 : D) => (⟨0, [some (.d (rowV (He.ga K "Row") a0)), some (.d a1), some (.d s5), none, none, none, none, none, none, none, none], []⟩ : DL.Env)) (fun _ => rfl) _ hr h rem lt rfl ⟨rfl, (wkK (wkK (wkK (wkF (wkF (wkF (wkF (wkF (wkF (wkF (wkF wk0))))))))))), _, rfl⟩ ?_ ?_ ?_ (fun _ => rfl)
  · intro s0_ H0_ hr_
    have k_Row := T.c_Row
    have na_Row_blocks := T.na_Row_blocks
    have f_len := T.f_len
    have f_list := T.f_list
    have f_range := T.f_range
    have f_enumerate := T.f_enumerate
    have cg_check_push := CG_check_push (P := P) (w := w) (base := base) T hr_ (by decide)
    have xg_check_push := XG_check_push (P := P) (w := w) (base := base) T hr_ (by decide)
    have cg_row_of := CG_row_of (P := P) (w := w) (base := base) T hr_ (by decide)
    have cg_run_of := CG_run_of (P := P) (w := w) (base := base) T hr_ (by decide)
    have hu65 := room_u65 hr_
    exact (it_enumM (ed_v rfl (.inl rfl) rfl rfl) h4 rfl f_enumerate rfl)
  · rintro d8 s5 kn6 o_ l_ h rem lt
    try dsimp only at h
    replace h := bnd h
    obtain ⟨⟨x9, x10⟩, h5, h⟩ := h
    obtain rfl := dUn2_ok h5
    refine ⟨_, fun s0_ H0_ hr_ => (tg_tup rfl (tgl_cons (tg_name 3 nd rfl (.inl rfl) (.inl rfl)) (tgl_cons (tg_name 4 nd rfl (.inl rfl) (.inl rfl)) tgl_nil rfl) rfl) rfl rfl), ?_⟩
    refine GX.gds_eq (ρ1 := ⟨0, [some (.d (rowV (He.ga K "Row") a0)), some (.d a1), some (.d s5), some (.d x9), some (.d x10), none, none, none, none, none, none], []⟩) ?_ rfl
    rcases orX_or h with h | h
    · obtain ⟨x_, hx_, h2_⟩ := bnd h
      refine GX.gds_raiseM hr h2_ rem rfl rfl (P := fun ρ_ => ρ_.ow = []) (fun i_ s0_ S0_ H0_ hr_ tk => ?_)
      have k_Row := T.c_Row
      have na_Row_blocks := T.na_Row_blocks
      have f_len := T.f_len
      have f_list := T.f_list
      have f_range := T.f_range
      have f_enumerate := T.f_enumerate
      have cg_check_push := CG_check_push (P := P) (w := w) (base := base) T hr_ (by decide)
      have xg_check_push := XG_check_push (P := P) (w := w) (base := base) T hr_ (by decide)
      have cg_row_of := CG_row_of (P := P) (w := w) (base := base) T hr_ (by decide)
      have cg_run_of := CG_run_of (P := P) (w := w) (base := base) T hr_ (by decide)
      have hu65 := room_u65 hr_
      have h := hx_
      exact sx_expr (ex_call tk xg_check_push (ad_cons (ed_v rfl (by walk_at "vis") rfl rfl) (ad_cons (ed_v rfl (.inl rfl) rfl rfl) (ad_cons (ed_v rfl (.inl rfl) rfl rfl) (ad_cons (ed_v rfl (.inl rfl) rfl rfl) ad_nil rfl) rfl) rfl) rfl) allD4 ⟨_, _, _, _, rfl, rfl, rfl, _, rfl, h⟩ rfl rfl rfl rfl) rfl rfl
    refine GX.gds_plR hr (fun s0_ H0_ hr_ => ?_)
    have k_Row := T.c_Row
    have na_Row_blocks := T.na_Row_blocks
    have f_len := T.f_len
    have f_list := T.f_list
    have f_range := T.f_range
    have f_enumerate := T.f_enumerate
    have cg_check_push := CG_check_push (P := P) (w := w) (base := base) T hr_ (by decide)
    have xg_check_push := XG_check_push (P := P) (w := w) (base := base) T hr_ (by decide)
    have cg_row_of := CG_row_of (P := P) (w := w) (base := base) T hr_ (by decide)
    have cg_run_of := CG_run_of (P := P) (w := w) (base := base) T hr_ (by decide)
    have hu65 := room_u65 hr_
    replace h := bnd h
    obtain ⟨t12, h7, h⟩ := h
    refine sds_expr (ed_call cg_check_push (ad_cons (ed_v rfl (by walk_at "vis") rfl rfl) (ad_cons (ed_v rfl (.inl rfl) rfl rfl) (ad_cons (ed_v rfl (.inl rfl) rfl rfl) (ad_cons (ed_v rfl (.inl rfl) rfl rfl) ad_nil rfl) rfl) rfl) rfl) allD4 ⟨_, _, _, _, rfl, rfl, rfl, _, rfl, h7⟩ rfl rfl rfl rfl) ?_ rfl
    refine sds_eq (ρ1 := ⟨0, [some (.d (rowV (He.ga K "Row") a0)), some (.d a1), some (.d s5), some (.d x9), some (.d x10), none, none, none, none, none, none], []⟩) ?_ rfl
    refine sds_nil ⟨rfl, ?_⟩
    refine GX.gds_eq (ρ1 := ⟨0, [some (.d (rowV (He.ga K "Row") a0)), some (.d a1), some (.d s5), some (.d x9), some (.d x10), none, none, none, none, none, none], []⟩) ?_ rfl
    refine GX.gds_plR hr (fun s0_ H0_ hr_ => ?_)
    have k_Row := T.c_Row
    have na_Row_blocks := T.na_Row_blocks
    have f_len := T.f_len
    have f_list := T.f_list
    have f_range := T.f_range
    have f_enumerate := T.f_enumerate
    have cg_check_push := CG_check_push (P := P) (w := w) (base := base) T hr_ (by decide)
    have xg_check_push := XG_check_push (P := P) (w := w) (base := base) T hr_ (by decide)
    have cg_row_of := CG_row_of (P := P) (w := w) (base := base) T hr_ (by decide)
    have cg_run_of := CG_run_of (P := P) (w := w) (base := base) T hr_ (by decide)
    have hu65 := room_u65 hr_
    replace h := bnd h
    obtain ⟨⟨x13, x14⟩, h8, h⟩ := h
    refine sds_un2 5 6 (ed_v rfl (.inl rfl) rfl rfl) h8 ?_ nd rfl rfl rfl (.inl rfl) (.inl rfl) (.inl rfl) (.inl rfl) rfl rfl
    refine sds_eq (ρ1 := ⟨0, [some (.d (rowV (He.ga K "Row") a0)), some (.d a1), some (.d s5), some (.d x9), some (.d x10), some (.d x13), some (.d x14), none, none, none, none], []⟩) ?_ rfl
    refine sds_nil ⟨rfl, ?_⟩
    refine GX.gds_eq (ρ1 := ⟨0, [some (.d (rowV (He.ga K "Row") a0)), some (.d a1), some (.d s5), some (.d x9), some (.d x10), some (.d x13), some (.d x14), none, none, none, none], []⟩) ?_ rfl
    refine GX.gds_plR hr (fun s0_ H0_ hr_ => ?_)
    have k_Row := T.c_Row
    have na_Row_blocks := T.na_Row_blocks
    have f_len := T.f_len
    have f_list := T.f_list
    have f_range := T.f_range
    have f_enumerate := T.f_enumerate
    have cg_check_push := CG_check_push (P := P) (w := w) (base := base) T hr_ (by decide)
    have xg_check_push := XG_check_push (P := P) (w := w) (base := base) T hr_ (by decide)
    have cg_row_of := CG_row_of (P := P) (w := w) (base := base) T hr_ (by decide)
    have cg_run_of := CG_run_of (P := P) (w := w) (base := base) T hr_ (by decide)
    have hu65 := room_u65 hr_
    replace h := bnd h
    obtain ⟨t15, h9, h⟩ := h
    replace h := bnd h
    obtain ⟨t18, h11, h⟩ := h
    replace h := bnd h
    obtain ⟨t19, h12, h⟩ := h
    refine sds_set 7 (ed_call cg_row_of (ad_cons (ed_lcC (own := [("number", 10)]) (it_seqM (ed_v rfl (.inl rfl) rfl rfl) h9) h11 (fun d16 o h => by replace h := bnd h; obtain ⟨t17, h10, h⟩ := h; exact lcP0 (tg_blk 10 nd rfl rfl) (fun _ _ _ _ _ => (ed_ixM (ed_fld 0 (ed_v rfl (by walk_at "vis") rfl rfl) k_Row na_Row_blocks rfl rfl) (ed_v rfl (by walk_at "vis") rfl rfl) h10 (fun _ _ => rfl))) h) (by decide) (blkOk_by rfl) nd rfl (fun _ => rfl)) ad_nil rfl) allD1 ⟨_, rfl, rfl, rfl, _, rfl, h12⟩ rfl rfl rfl rfl) ?_ nd rfl (.inl rfl) rfl (.inl rfl)
    refine sds_eq (ρ1 := ⟨0, [some (.d (rowV (He.ga K "Row") a0)), some (.d a1), some (.d s5), some (.d x9), some (.d x10), some (.d x13), some (.d x14), some (.d (rowV (He.ga K "Row") t19)), none, none, none], []⟩) ?_ rfl
    refine sds_nil ⟨rfl, ?_⟩
    refine GX.gds_eq (ρ1 := ⟨0, [some (.d (rowV (He.ga K "Row") a0)), some (.d a1), some (.d s5), some (.d x9), some (.d x10), some (.d x13), some (.d x14), some (.d (rowV (He.ga K "Row") t19)), none, none, none], []⟩) ?_ rfl
    refine GX.gds_plR hr (fun s0_ H0_ hr_ => ?_)
    have k_Row := T.c_Row
    have na_Row_blocks := T.na_Row_blocks
    have f_len := T.f_len
    have f_list := T.f_list
    have f_range := T.f_range
    have f_enumerate := T.f_enumerate
    have cg_check_push := CG_check_push (P := P) (w := w) (base := base) T hr_ (by decide)
    have xg_check_push := XG_check_push (P := P) (w := w) (base := base) T hr_ (by decide)
    have cg_row_of := CG_row_of (P := P) (w := w) (base := base) T hr_ (by decide)
    have cg_run_of := CG_run_of (P := P) (w := w) (base := base) T hr_ (by decide)
    have hu65 := room_u65 hr_
    replace h := bnd h
    obtain ⟨t20, h13, h⟩ := h
    replace h := bnd h
    obtain ⟨t21, h14, h⟩ := h
    replace h := bnd h
    obtain ⟨⟨x22, x23⟩, h15, h⟩ := h
    refine sds_un2 8 9 (ed_call cg_run_of (ad_cons (ed_fld 0 (ed_v rfl (.inl rfl) rfl rfl) k_Row na_Row_blocks rfl rfl) (ad_cons (ed_indexM hu65 (ed_v rfl (.inl rfl) rfl rfl) (ed_v rfl (.inl rfl) rfl rfl) h13 rfl rfl rfl rfl rfl) (ad_cons (ed_v rfl (.inl rfl) rfl rfl) ad_nil rfl) rfl) rfl) allD3 ⟨_, _, _, rfl, rfl, rfl, _, rfl, h14⟩ rfl rfl rfl rfl) h15 ?_ nd rfl rfl rfl (.inl rfl) (.inl rfl) (.inl rfl) (.inl rfl) rfl rfl
    refine sds_eq (ρ1 := ⟨0, [some (.d (rowV (He.ga K "Row") a0)), some (.d a1), some (.d s5), some (.d x9), some (.d x10), some (.d x13), some (.d x14), some (.d (rowV (He.ga K "Row") t19)), some (.d x22), some (.d x23), none], []⟩) ?_ rfl
    refine sds_nil ⟨rfl, ?_⟩
    refine GX.gds_eq (ρ1 := ⟨0, [some (.d (rowV (He.ga K "Row") a0)), some (.d a1), some (.d s5), some (.d x9), some (.d x10), some (.d x13), some (.d x14), some (.d (rowV (He.ga K "Row") t19)), some (.d x22), some (.d x23), none], []⟩) ?_ rfl
    replace h := bnd h
    obtain ⟨t24, h16, h⟩ := h
    replace h := bnd h
    obtain ⟨t25, h17, h⟩ := h
    replace h := bnd h
    obtain ⟨t26, h18, h⟩ := h
    replace h := bnd h
    obtain ⟨t27, h19, h⟩ := h
    refine GX.gds_yieldM (ρ1 := ⟨0, [some (.d (rowV (He.ga K "Row") a0)), some (.d a1), some (.d s5), some (.d x9), some (.d x10), some (.d x13), some (.d x14), some (.d (rowV (He.ga K "Row") t19)), some (.d x22), some (.d x23), none], []⟩) hr h rem ?_ rfl ?_
    · intro s0_ H0_ hr_
      have k_Row := T.c_Row
      have na_Row_blocks := T.na_Row_blocks
      have f_len := T.f_len
      have f_list := T.f_list
      have f_range := T.f_range
      have f_enumerate := T.f_enumerate
      have cg_check_push := CG_check_push (P := P) (w := w) (base := base) T hr_ (by decide)
      have xg_check_push := XG_check_push (P := P) (w := w) (base := base) T hr_ (by decide)
      have cg_row_of := CG_row_of (P := P) (w := w) (base := base) T hr_ (by decide)
      have cg_run_of := CG_run_of (P := P) (w := w) (base := base) T hr_ (by decide)
      have hu65 := room_u65 hr_
      exact (ed_sliceX (ed_v rfl (.inl rfl) rfl rfl) (pd_someM (ed_v rfl (.inl rfl) rfl rfl) h16) (pd_someM (ed_addX (ed_v rfl (.inl rfl) rfl rfl) ed_int h17) h18) h19)
    · intro l_ h rem lt
      refine GX.gds_eq (ρ1 := ⟨0, [some (.d (rowV (He.ga K "Row") a0)), some (.d a1), some (.d s5), some (.d x9), some (.d x10), some (.d x13), some (.d x14), some (.d (rowV (He.ga K "Row") t19)), some (.d x22), some (.d x23), none], []⟩) ?_ rfl
      refine GX.gds_plR hr (fun s0_ H0_ hr_ => ?_)
      have k_Row := T.c_Row
      have na_Row_blocks := T.na_Row_blocks
      have f_len := T.f_len
      have f_list := T.f_list
      have f_range := T.f_range
      have f_enumerate := T.f_enumerate
      have cg_check_push := CG_check_push (P := P) (w := w) (base := base) T hr_ (by decide)
      have xg_check_push := XG_check_push (P := P) (w := w) (base := base) T hr_ (by decide)
      have cg_row_of := CG_row_of (P := P) (w := w) (base := base) T hr_ (by decide)
      have cg_run_of := CG_run_of (P := P) (w := w) (base := base) T hr_ (by decide)
      have hu65 := room_u65 hr_
      replace h := bnd h
      obtain ⟨t28, h20, h⟩ := h
      replace h := bnd h
      obtain ⟨t29, h21, h⟩ := h
      replace h := bnd h
      obtain ⟨t30, h22, h⟩ := h
      replace h := bnd h
      obtain ⟨t31, h23, h⟩ := h
      replace h := bnd h
      obtain ⟨t32, h24, h⟩ := h
      replace h := bnd h
      obtain ⟨t33, h25, h⟩ := h
      refine sds_set 2 (ed_addX (ed_sliceX (ed_v rfl (.inl rfl) rfl rfl) pd_none (pd_someM (ed_v rfl (.inl rfl) rfl rfl) h20) h21) (ed_sliceX (ed_v rfl (.inl rfl) rfl rfl) (pd_someM (ed_addX (ed_v rfl (.inl rfl) rfl rfl) ed_int h22) h23) pd_none h24) h25) ?_ nd rfl (.inl rfl) rfl (.inl rfl)
      refine sds_eq (ρ1 := ⟨0, [some (.d (rowV (He.ga K "Row") a0)), some (.d a1), some (.d t33), some (.d x9), some (.d x10), some (.d x13), some (.d x14), some (.d (rowV (He.ga K "Row") t19)), some (.d x22), some (.d x23), none], []⟩) ?_ rfl
      refine sds_nil ⟨rfl, ?_⟩
      refine GX.gds_eq (ρ1 := ⟨0, [some (.d (rowV (He.ga K "Row") a0)), some (.d a1), some (.d t33), some (.d x9), some (.d x10), some (.d x13), some (.d x14), some (.d (rowV (He.ga K "Row") t19)), some (.d x22), some (.d x23), none], []⟩) ?_ rfl
      exact GX.gds_nil ⟨rfl, t33, _, ⟨rfl, (wkK (wkK (wkK (wkF (wkF (wkF (wkF (wkF (wkF (wkF (wkF wk0))))))))))), _, rfl⟩, h, rem, lt⟩
  · rintro s34 o_ l_ h rem lt
    try dsimp only at h
    refine GX.gds_eq (ρ1 := ⟨0, [some (.d (rowV (He.ga K "Row") a0)), some (.d a1), some (.d s34), none, none, none, none, none, none, none, none], []⟩) ?_ rfl
    cases h
end
theorem XG_falls_by {P : Program} {w : World} {K : PySem.W.Frag} {mg : Str → Option Value} {base : Heap} {A : Around} {k : Nat} (T : Tx K mg) (hr : Room k A) (h : 10 ≤ k) : GX.CGGs P w K mg base A "falls_by" (GX.starG (RX_falls_by (He.ga K))) := ⟨_, _, xok_falls_by T, hr.mono h, T.g_falls_by, kp_of T.d_falls_by⟩

/-! _law_taken -/
noncomputable def m_law_taken (a0 : List D) (a1 : D) : Option (D × List D) :=
  (lIx a0 (.int 3)).bind fun t1 => (dGt t1 (.int 0)).bind fun t2 => cond t2 ((lIx a0 (.int 3)).bind fun t3 => (dInt t3).bind fun t4 => (dMod t4 a1).bind fun t5 => (lIx a0 (.int 3)).bind fun t6 => (dDiv t6 a1).bind fun t7 => (lPut a0 (.int 3) t7).bind fun t8 => some (t5, t8)) ((lIx a0 (.int 1)).bind fun t9 => (dAddX t9 (.int 1)).bind fun t10 => (lPut a0 (.int 1) t10).bind fun t11 => (lIx t11 (.int 1)).bind fun t12 => (lIx t11 (.int 0)).bind fun t13 => (dLen t13).bind fun t14 => (dGt t12 t14).bind fun t15 => cond t15 ((lIx t11 (.int 2)).bind fun t16 => (dMul t16 (.int 48271)).bind fun t17 => (dAddX t17 (.int 11)).bind fun t18 => (dInt t18).bind fun t19 => (dMod t19 (.int 2147483647)).bind fun t20 => (lPut t11 (.int 2) t20).bind fun t21 => (lIx t21 (.int 2)).bind fun t22 => (dDiv t22 (.int 7)).bind fun t23 => (dInt t23).bind fun t24 => (dMod t24 a1).bind fun t25 => some (t25, t21)) ((lIx t11 (.int 0)).bind fun t26 => (lIx t11 (.int 1)).bind fun t27 => (dSub t27 (.int 1)).bind fun t28 => (dIx t26 t28).bind fun t29 => (lIx t11 (.int 2)).bind fun t30 => (dMul t30 (.int 48271)).bind fun t31 => (dAddX t31 t29).bind fun t32 => (dAddX t32 (.int 11)).bind fun t33 => (dInt t33).bind fun t34 => (dMod t34 (.int 2147483647)).bind fun t35 => (lPut t11 (.int 2) t35).bind fun t36 => (dPow (.int 10) (.int 18)).bind fun t37 => (dGe t29 t37).bind fun t38 => (cond t38 ((dDiv t29 a1).bind fun t40 => (lPut t36 (.int 3) t40).bind fun t41 => some t41) (some t36) : Option (List D)).bind (fun (l39 : List D) => (dInt t29).bind fun t42 => (dMod t42 a1).bind fun t43 => some (t43, l39))))
def R_law_taken (G : Str → Addr) : FSpec := fun xs os r os' => ∃ (a0 : List D) (a1 : D) (b0 : List D), xs = [.loc 0, .d a1] ∧ os = [.lst a0] ∧ os' = [.lst b0] ∧ ∃ t, r = t ∧ m_law_taken a0 a1 = some (t, b0)
section
variable {P : Program} {w : World} {K : PySem.W.Frag} {mg : Str → Option Value} {base : Heap}
set_option maxHeartbeats 4000000 in
theorem ok_law_taken (T : Tx K mg) : FnR P w K mg base CX0 1 (He.ga K "_law_taken") (spF K (R_law_taken (He.ga K))) := by
  obtain ⟨fd, F⟩ := T.d_law_taken
  have nd := sc_law_taken.nd
  have hb : Binds K fd ["_law_row_here", "_law_many"] [] := F.bindsN fun _ _ _ _ _ _ us hl => match us, hl with | [_, _], _ => rfl
  refine fn_D F sc_law_taken hb ?_ ?_
  · rintro xs os r os' ⟨a0, a1, b0, rfl, rfl, rfl, t, rfl, _⟩
    exact ⟨rfl, rfl, by intro o ho; simp at ho; subst ho; exact trivial⟩
  · rintro cdv A outer s_ H E hr xs os r os' ⟨a0, a1, b0, rfl, rfl, rfl, t, rfl, h⟩ _
    have f_int := T.f_int
    have f_len := T.f_len
    unfold m_law_taken at h
    refine sds_eq (ρ1 := ⟨1, [some (.loc 0), some (.d a1), none, none], [some (.lst a0)]⟩) ?_ rfl
    replace h := bnd h
    obtain ⟨t1, h1, h⟩ := h
    replace h := bnd h
    obtain ⟨t2, h2, h⟩ := h
    refine sds_ifM (td_gtM (ed_ixOM (ed_v rfl (.inl rfl) rfl rfl) ed_int rfl h1 (fun _ _ => rfl)) ed_int h2) h (fun h => ?_) (fun h => ?_)
    · replace h := bnd h
      obtain ⟨t3, h3, h⟩ := h
      replace h := bnd h
      obtain ⟨t4, h4, h⟩ := h
      replace h := bnd h
      obtain ⟨t5, h5, h⟩ := h
      refine sds_set 2 (ed_modM (ed_bty' (cb_intM h4) (ad_cons (ed_ixOM (ed_v rfl (.inl rfl) rfl rfl) ed_int rfl h3 (fun _ _ => rfl)) ad_nil rfl) f_int boot_int rfl (by decide) rfl rfl rfl) (ed_v rfl (.inl rfl) rfl rfl) h5) ?_ nd rfl (.inl rfl) rfl (.inl rfl)
      refine sds_eq (ρ1 := ⟨1, [some (.loc 0), some (.d a1), some (.d t5), none], [some (.lst a0)]⟩) ?_ rfl
      replace h := bnd h
      obtain ⟨t6, h6, h⟩ := h
      replace h := bnd h
      obtain ⟨t7, h7, h⟩ := h
      replace h := bnd h
      obtain ⟨t8, h8, h⟩ := h
      refine sds_setIxM (ed_divM (ed_ixOM (ed_v rfl (.inl rfl) rfl rfl) ed_int rfl h6 (fun _ _ => rfl)) (ed_v rfl (.inl rfl) rfl rfl) h7) (ed_v rfl (.inl rfl) rfl rfl) ed_int rfl h8 ?_ (fun _ => rfl) rfl rfl rfl
      refine sds_eq (ρ1 := ⟨1, [some (.loc 0), some (.d a1), some (.d t5), none], [some (.lst t8)]⟩) ?_ rfl
      cases h
      exact sds_ret (ed_v rfl (.inl rfl) rfl rfl) ⟨rfl, rfl⟩
    · refine sds_nil ?_
      replace h := bnd h
      obtain ⟨t9, h9, h⟩ := h
      replace h := bnd h
      obtain ⟨t10, h10, h⟩ := h
      replace h := bnd h
      obtain ⟨t11, h11, h⟩ := h
      refine sds_setIxM (ed_addX (ed_ixOM (ed_v rfl (.inl rfl) rfl rfl) ed_int rfl h9 (fun _ _ => rfl)) ed_int h10) (ed_v rfl (.inl rfl) rfl rfl) ed_int rfl h11 ?_ (fun _ => rfl) rfl rfl rfl
      refine sds_eq (ρ1 := ⟨1, [some (.loc 0), some (.d a1), none, none], [some (.lst t11)]⟩) ?_ rfl
      replace h := bnd h
      obtain ⟨t12, h12, h⟩ := h
      replace h := bnd h
      obtain ⟨t13, h13, h⟩ := h
      replace h := bnd h
      obtain ⟨t14, h14, h⟩ := h
      replace h := bnd h
      obtain ⟨t15, h15, h⟩ := h
      refine sds_ifM (td_gtM (ed_ixOM (ed_v rfl (.inl rfl) rfl rfl) ed_int rfl h12 (fun _ _ => rfl)) (ed_blt (cb_lenM h14) (ad_cons (ed_ixOM (ed_v rfl (.inl rfl) rfl rfl) ed_int rfl h13 (fun _ _ => rfl)) ad_nil rfl) f_len boot_len rfl (by decide) rfl rfl rfl) h15) h (fun h => ?_) (fun h => ?_)
      · replace h := bnd h
        obtain ⟨t16, h16, h⟩ := h
        replace h := bnd h
        obtain ⟨t17, h17, h⟩ := h
        replace h := bnd h
        obtain ⟨t18, h18, h⟩ := h
        replace h := bnd h
        obtain ⟨t19, h19, h⟩ := h
        replace h := bnd h
        obtain ⟨t20, h20, h⟩ := h
        replace h := bnd h
        obtain ⟨t21, h21, h⟩ := h
        refine sds_setIxM (ed_modM (ed_bty' (cb_intM h19) (ad_cons (ed_addX (ed_mulM (ed_ixOM (ed_v rfl (.inl rfl) rfl rfl) ed_int rfl h16 (fun _ _ => rfl)) ed_int h17) ed_int h18) ad_nil rfl) f_int boot_int rfl (by decide) rfl rfl rfl) ed_int h20) (ed_v rfl (.inl rfl) rfl rfl) ed_int rfl h21 ?_ (fun _ => rfl) rfl rfl rfl
        refine sds_eq (ρ1 := ⟨1, [some (.loc 0), some (.d a1), none, none], [some (.lst t21)]⟩) ?_ rfl
        replace h := bnd h
        obtain ⟨t22, h22, h⟩ := h
        replace h := bnd h
        obtain ⟨t23, h23, h⟩ := h
        replace h := bnd h
        obtain ⟨t24, h24, h⟩ := h
        replace h := bnd h
        obtain ⟨t25, h25, h⟩ := h
        cases h
        exact sds_ret (ed_modM (ed_bty' (cb_intM h24) (ad_cons (ed_divM (ed_ixOM (ed_v rfl (.inl rfl) rfl rfl) ed_int rfl h22 (fun _ _ => rfl)) ed_int h23) ad_nil rfl) f_int boot_int rfl (by decide) rfl rfl rfl) (ed_v rfl (.inl rfl) rfl rfl) h25) ⟨rfl, rfl⟩
      · refine sds_nil ?_
        replace h := bnd h
        obtain ⟨t26, h26, h⟩ := h
        replace h := bnd h
        obtain ⟨t27, h27, h⟩ := h
        replace h := bnd h
        obtain ⟨t28, h28, h⟩ := h
        replace h := bnd h
        obtain ⟨t29, h29, h⟩ := h
        refine sds_set 3 (ed_ixM (ed_ixOM (ed_v rfl (.inl rfl) rfl rfl) ed_int rfl h26 (fun _ _ => rfl)) (ed_subM (ed_ixOM (ed_v rfl (.inl rfl) rfl rfl) ed_int rfl h27 (fun _ _ => rfl)) ed_int h28) h29 (fun _ _ => rfl)) ?_ nd rfl (.inl rfl) rfl (.inl rfl)
        refine sds_eq (ρ1 := ⟨1, [some (.loc 0), some (.d a1), none, some (.d t29)], [some (.lst t11)]⟩) ?_ rfl
        replace h := bnd h
        obtain ⟨t30, h30, h⟩ := h
        replace h := bnd h
        obtain ⟨t31, h31, h⟩ := h
        replace h := bnd h
        obtain ⟨t32, h32, h⟩ := h
        replace h := bnd h
        obtain ⟨t33, h33, h⟩ := h
        replace h := bnd h
        obtain ⟨t34, h34, h⟩ := h
        replace h := bnd h
        obtain ⟨t35, h35, h⟩ := h
        replace h := bnd h
        obtain ⟨t36, h36, h⟩ := h
        refine sds_setIxM (ed_modM (ed_bty' (cb_intM h34) (ad_cons (ed_addX (ed_addX (ed_mulM (ed_ixOM (ed_v rfl (.inl rfl) rfl rfl) ed_int rfl h30 (fun _ _ => rfl)) ed_int h31) (ed_v rfl (.inl rfl) rfl rfl) h32) ed_int h33) ad_nil rfl) f_int boot_int rfl (by decide) rfl rfl rfl) ed_int h35) (ed_v rfl (.inl rfl) rfl rfl) ed_int rfl h36 ?_ (fun _ => rfl) rfl rfl rfl
        refine sds_eq (ρ1 := ⟨1, [some (.loc 0), some (.d a1), none, some (.d t29)], [some (.lst t36)]⟩) ?_ rfl
        replace h := bnd h
        obtain ⟨t37, h37, h⟩ := h
        replace h := bnd h
        obtain ⟨t38, h38, h⟩ := h
        replace h := bnd h
        obtain ⟨l39, h41, h⟩ := h
        refine sds_ifC (fun (l39 : List D) => (⟨1, [some (.loc 0), some (.d a1), none, some (.d t29)], [some (.lst l39)]⟩ : DL.Env)) rfl (td_geM (ed_v rfl (.inl rfl) rfl rfl) (ed_powM ed_int ed_int h37) h38) h41 (fun h => ?_) (fun h => ?_) ?_
        · replace h := bnd h
          obtain ⟨t40, h39, h⟩ := h
          replace h := bnd h
          obtain ⟨t41, h40, h⟩ := h
          refine sds_setIxM (ed_divM (ed_v rfl (.inl rfl) rfl rfl) (ed_v rfl (.inl rfl) rfl rfl) h39) (ed_v rfl (.inl rfl) rfl rfl) ed_int rfl h40 ?_ (fun _ => rfl) rfl rfl rfl
          refine sds_eq (ρ1 := ⟨1, [some (.loc 0), some (.d a1), none, some (.d t29)], [some (.lst t41)]⟩) ?_ rfl
          cases h
          exact sds_nil ⟨rfl, (wkK (wkK (wkF (wkK wk0)))), _, rfl⟩
        · cases h
          exact sds_nil ⟨rfl, (wkK (wkK (wkF (wkK wk0)))), _, rfl⟩
        · refine sds_eq (ρ1 := ⟨1, [some (.loc 0), some (.d a1), none, some (.d t29)], [some (.lst l39)]⟩) ?_ rfl
          replace h := bnd h
          obtain ⟨t42, h42, h⟩ := h
          replace h := bnd h
          obtain ⟨t43, h43, h⟩ := h
          cases h
          exact sds_ret (ed_modM (ed_bty' (cb_intM h42) (ad_cons (ed_v rfl (.inl rfl) rfl rfl) ad_nil rfl) f_int boot_int rfl (by decide) rfl rfl rfl) (ed_v rfl (.inl rfl) rfl rfl) h43) ⟨rfl, rfl⟩
end
theorem CG_law_taken {P : Program} {w : World} {K : PySem.W.Frag} {mg : Str → Option Value} {base : Heap} {A : Around} {k : Nat} (T : Tx K mg) (hr : Room k A) (h : 1 ≤ k) : CGs P w K mg base A "_law_taken" (R_law_taken (He.ga K)) := ⟨_, _, ok_law_taken T, hr.mono h, T.g_law_taken, kp_of T.d_law_taken⟩

/-! _law_alike -/
noncomputable def m_law_alike : Nat → D → D → Option D
  | 0, _, _ => none
  | n_ + 1, a0, a1 =>
  (dIsi (fun k => Kd.isTup k || Kd.isLst k) a0).bind fun t1 => (dB (.bl t1)).bind fun t2 => (cond t2 ((dIsi (fun k => Kd.isTup k || Kd.isLst k) a1).bind fun t3 => (dB (.bl t3)).bind fun t4 => some t4) (some false)).bind fun t5 => cond t5 ((dIsi Kd.isTup a0).bind fun t6 => (dIsi Kd.isTup a1).bind fun t7 => (dNe (.bl t6) (.bl t7)).bind fun t8 => (cond t8 (some true) ((dLen a0).bind fun t9 => (dLen a1).bind fun t10 => (dNe t9 t10).bind fun t11 => some t11)).bind fun t12 => cond t12 (some (.bl false)) ((dLen a0).bind fun t13 => (dRange1 t13).bind fun t14 => (lcG (fun d15 => (dIx a0 d15).bind fun t16 => (dIx a1 d15).bind fun t17 => (m_law_alike n_ t16 t17).bind fun t18 => (dB t18).bind fun t19 => cond (!t19) (some (some d15)) (some none)) t14).bind fun t20 => (dEq (.lst t20) (.lst [])).bind fun t21 => some (.bl t21))) ((dEq a0 a1).bind fun t22 => (cond t22 ((dIsi Kd.isBool a0).bind fun t23 => (dIsi Kd.isBool a1).bind fun t24 => (dEq (.bl t23) (.bl t24)).bind fun t25 => some t25) (some false)).bind fun t26 => some (.bl t26))
def R_law_alike (n_ : Nat) (G : Str → Addr) : FSpec := fun xs os r os' => ∃ (a0 : D) (a1 : D), xs = [.d a0, .d a1] ∧ os = [] ∧ os' = [] ∧ ∃ t, r = t ∧ m_law_alike n_ a0 a1 = some t
section
variable {P : Program} {w : World} {K : PySem.W.Frag} {mg : Str → Option Value} {base : Heap}
set_option maxHeartbeats 4000000 in
theorem ok_law_alike (T : Tx K mg) : ∀ n_ : Nat, FnR P w K mg base CX0 (1 + n_) (He.ga K "_law_alike") (spF K (R_law_alike n_ (He.ga K))) := by
  obtain ⟨fd, F⟩ := T.d_law_alike
  have nd := sc_law_alike.nd
  have hb : Binds K fd ["_law_one", "_law_due"] [] := F.bindsN fun _ _ _ _ _ _ us hl => match us, hl with | [_, _], _ => rfl
  intro n_
  induction n_ with
  | zero =>
    refine fn_D (j := 0) F sc_law_alike hb ?_ ?_
    · rintro xs os r os' ⟨a0, a1, rfl, rfl, rfl, t, rfl, _⟩
      exact ⟨rfl, rfl, by simp⟩
    · rintro cdv A outer s_ H E hr xs os r os' ⟨a0, a1, rfl, rfl, rfl, t, rfl, h⟩ _
      cases h
  | succ n_ ih =>
    refine fn_D (j := 1 + n_) F sc_law_alike hb ?_ ?_
    · rintro xs os r os' ⟨a0, a1, rfl, rfl, rfl, t, rfl, _⟩
      exact ⟨rfl, rfl, by simp⟩
    · rintro cdv A outer s_ H E hr xs os r os' ⟨a0, a1, rfl, rfl, rfl, t, rfl, h⟩ _
      have c_rec : CGs P w K mg base (A.deeper (envOfC "_law_alike" (defScope s_law_alike) s_.heap.objs.size (He.ga K "_law_alike") cdv)) "_law_alike" (R_law_alike n_ (He.ga K)) := ⟨_, _, ih, hr, T.g_law_alike, kp_of T.d_law_alike⟩
      have f_tuple := T.f_tuple
      have f_list := T.f_list
      have f_isinstance := T.f_isinstance
      have hu := room_u hr
      have f_len := T.f_len
      have f_range := T.f_range
      have f_bool := T.f_bool
      unfold m_law_alike at h
      refine sds_eq (ρ1 := ⟨0, [some (.d a0), some (.d a1), none], []⟩) ?_ rfl
      replace h := bnd h
      obtain ⟨t1, h1, h⟩ := h
      replace h := bnd h
      obtain ⟨t2, h2, h⟩ := h
      replace h := bnd h
      obtain ⟨t5, h5, h⟩ := h
      refine sds_ifM (TW.td (tw_andM (td_valM (ed_blt (cb_isi2M kit_tup kit_lst h1) (ad_cons (ed_v rfl (by walk_at "vis") rfl rfl) (ad_cons (ed_tup (ad_cons (ed_bty f_tuple rfl boot_tuple (by decide) rfl) (ad_cons (ed_bty f_list rfl boot_list (by decide) rfl) ad_nil rfl) rfl) allD2 (by rw [sizeLine_eq]; exact Nat.le_of_ble_eq_true rfl)) ad_nil rfl) rfl) f_isinstance boot_isinstance rfl (by decide) rfl rfl rfl) h2 (fun _ => rfl)) h5 (fun h => by replace h := bnd h; obtain ⟨t3, h3, h⟩ := h; replace h := bnd h; obtain ⟨t4, h4, h⟩ := h; exact TW.sm h (tw_and1 (td_valM (ed_blt (cb_isi2M kit_tup kit_lst h3) (ad_cons (ed_v rfl (by walk_at "vis") rfl rfl) (ad_cons (ed_tup (ad_cons (ed_bty f_tuple rfl boot_tuple (by decide) rfl) (ad_cons (ed_bty f_list rfl boot_list (by decide) rfl) ad_nil rfl) rfl) allD2 (by rw [sizeLine_eq]; exact Nat.le_of_ble_eq_true rfl)) ad_nil rfl) rfl) f_isinstance boot_isinstance rfl (by decide) rfl rfl rfl) h4 (fun _ => rfl)))))) h (fun h => ?_) (fun h => ?_)
      · replace h := bnd h
        obtain ⟨t6, h6, h⟩ := h
        replace h := bnd h
        obtain ⟨t7, h7, h⟩ := h
        replace h := bnd h
        obtain ⟨t8, h8, h⟩ := h
        replace h := bnd h
        obtain ⟨t12, h12, h⟩ := h
        refine sds_ifM (TW.td (tw_orM (td_neM hu (ed_blt (cb_isiM kit_tup h6) (ad_cons (ed_v rfl (by walk_at "vis") rfl rfl) (ad_cons (ed_bty f_tuple rfl boot_tuple (by decide) rfl) ad_nil rfl) rfl) f_isinstance boot_isinstance rfl (by decide) rfl rfl rfl) (ed_blt (cb_isiM kit_tup h7) (ad_cons (ed_v rfl (by walk_at "vis") rfl rfl) (ad_cons (ed_bty f_tuple rfl boot_tuple (by decide) rfl) ad_nil rfl) rfl) f_isinstance boot_isinstance rfl (by decide) rfl rfl rfl) h8 rfl) h12 (fun h => by replace h := bnd h; obtain ⟨t9, h9, h⟩ := h; replace h := bnd h; obtain ⟨t10, h10, h⟩ := h; replace h := bnd h; obtain ⟨t11, h11, h⟩ := h; exact TW.sm h (tw_or1 (td_neM hu (ed_blt (cb_lenM h9) (ad_cons (ed_v rfl (by walk_at "vis") rfl rfl) ad_nil rfl) f_len boot_len rfl (by decide) rfl rfl rfl) (ed_blt (cb_lenM h10) (ad_cons (ed_v rfl (by walk_at "vis") rfl rfl) ad_nil rfl) f_len boot_len rfl (by decide) rfl rfl rfl) h11 rfl))))) h (fun h => ?_) (fun h => ?_)
        · cases h
          exact sds_ret ed_bl ⟨rfl, rfl⟩
        · refine sds_nil ?_
          replace h := bnd h
          obtain ⟨t13, h13, h⟩ := h
          replace h := bnd h
          obtain ⟨t14, h14, h⟩ := h
          replace h := bnd h
          obtain ⟨t20, h19, h⟩ := h
          replace h := bnd h
          obtain ⟨t21, h20, h⟩ := h
          cases h
          exact sds_ret (ed_eqM hu (ed_lcC (own := [("_law_k", 2)]) (it_range1M (ed_blt (cb_lenM h13) (ad_cons (ed_v rfl (by walk_at "vis") rfl rfl) ad_nil rfl) f_len boot_len rfl (by decide) rfl rfl rfl) h14 rfl f_range rfl) h19 (fun d15 o h => by replace h := bnd h; obtain ⟨t16, h15, h⟩ := h; replace h := bnd h; obtain ⟨t17, h16, h⟩ := h; replace h := bnd h; obtain ⟨t18, h17, h⟩ := h; replace h := bnd h; obtain ⟨t19, h18, h⟩ := h; exact lcPif (tg_blk 2 nd rfl rfl) (fun _ _ _ _ _ => (td_not (td_valM (ed_call c_rec (ad_cons (ed_ixM (ed_v rfl (by walk_at "vis") rfl rfl) (ed_v rfl (by walk_at "vis") rfl rfl) h15 (fun _ _ => rfl)) (ad_cons (ed_ixM (ed_v rfl (by walk_at "vis") rfl rfl) (ed_v rfl (by walk_at "vis") rfl rfl) h16 (fun _ _ => rfl)) ad_nil rfl) rfl) allD2 ⟨_, _, rfl, rfl, rfl, _, rfl, h17⟩ rfl rfl rfl rfl) h18 (fun _ => rfl)))) h (fun h => by exact ⟨_, h, fun _ _ _ _ _ => (ed_v rfl (by walk_at "vis") rfl rfl)⟩)) (by decide) (blkOk_by rfl) nd rfl (fun _ => rfl)) (ed_lst ad_nil AllD.nil (by rw [sizeLine_eq]; exact Nat.le_of_ble_eq_true rfl)) h20 rfl) ⟨rfl, rfl⟩
      · refine sds_nil ?_
        replace h := bnd h
        obtain ⟨t22, h21, h⟩ := h
        replace h := bnd h
        obtain ⟨t26, h25, h⟩ := h
        cases h
        exact sds_ret (ed_andM (ed_eqM hu (ed_v rfl (by walk_at "vis") rfl rfl) (ed_v rfl (by walk_at "vis") rfl rfl) h21 rfl) h25 (fun h => by replace h := bnd h; obtain ⟨t23, h22, h⟩ := h; replace h := bnd h; obtain ⟨t24, h23, h⟩ := h; replace h := bnd h; obtain ⟨t25, h24, h⟩ := h; exact ED.smB h (ed_one (ed_eqM hu (ed_blt (cb_isiM kit_bool h22) (ad_cons (ed_v rfl (by walk_at "vis") rfl rfl) (ad_cons (ed_bty f_bool rfl boot_bool (by decide) rfl) ad_nil rfl) rfl) f_isinstance boot_isinstance rfl (by decide) rfl rfl rfl) (ed_blt (cb_isiM kit_bool h23) (ad_cons (ed_v rfl (by walk_at "vis") rfl rfl) (ad_cons (ed_bty f_bool rfl boot_bool (by decide) rfl) ad_nil rfl) rfl) f_isinstance boot_isinstance rfl (by decide) rfl rfl rfl) h24 rfl)))) ⟨rfl, rfl⟩
end
theorem CG_law_alike {P : Program} {w : World} {K : PySem.W.Frag} {mg : Str → Option Value} {base : Heap} {A : Around} {k : Nat} (T : Tx K mg) (hr : Room k A) (h : 7 ≤ k) : CGs P w K mg base A "_law_alike" (R_law_alike 6 (He.ga K)) := ⟨_, _, ok_law_alike T 6, hr.mono h, T.g_law_alike, kp_of T.d_law_alike⟩

/-! _law_stones -/
noncomputable def m_law_stones (a0 : List D) (a1 : D) : Option (D × List D) :=
  (m_law_taken a0 (.int 3)).bind fun z => (match z with | (t1, o2) => (dAddX a1 (.int 1)).bind fun t3 => (m_law_taken o2 t3).bind fun z => (match z with | (t4, o5) => (dRange1 t4).bind fun t6 => (forS (fun d10 => fun (z : D × List D × List D) => (match z with | (s7, l8, l9) => (m_law_taken l8 (.int 4)).bind fun z => (match z with | (t11, o12) => (dIx (.lst [(.int 2), (.int 5), (.int 12), (.int 40)]) t11).bind fun t13 => (m_law_taken o12 t13).bind fun z => (match z with | (t14, o15) => (dAddX (.int 1) t14).bind fun t16 => (lApp l9 (.tup [s7, t16])).bind fun t17 => (dAddX s7 (.int 1)).bind fun t18 => (m_law_taken o15 (.int 3)).bind fun z => (match z with | (t19, o20) => (dIx (.lst [(.int 1), (.int 3), (.int 9)]) t19).bind fun t21 => (m_law_taken o20 t21).bind fun z => (match z with | (t22, o23) => (dAddX t18 t22).bind fun t24 => some (t24, o23, t17))))))) t6 (t1, o5, [])).bind (fun (z : D × List D × List D) => (match z with | (s25, l26, l27) => some ((.lst l27), l26)))))
def R_law_stones (G : Str → Addr) : FSpec := fun xs os r os' => ∃ (a0 : List D) (a1 : D) (b0 : List D), xs = [.loc 0, .d a1] ∧ os = [.lst a0] ∧ os' = [.lst b0] ∧ ∃ t, r = t ∧ m_law_stones a0 a1 = some (t, b0)
section
variable {P : Program} {w : World} {K : PySem.W.Frag} {mg : Str → Option Value} {base : Heap}
set_option maxHeartbeats 4000000 in
theorem ok_law_stones (T : Tx K mg) : FnR P w K mg base CX0 2 (He.ga K "_law_stones") (spF K (R_law_stones (He.ga K))) := by
  obtain ⟨fd, F⟩ := T.d_law_stones
  have nd := sc_law_stones.nd
  have hb : Binds K fd ["_law_row_here", "_law_most"] [] := F.bindsN fun _ _ _ _ _ _ us hl => match us, hl with | [_, _], _ => rfl
  refine fn_D F sc_law_stones hb ?_ ?_
  · rintro xs os r os' ⟨a0, a1, b0, rfl, rfl, rfl, t, rfl, _⟩
    exact ⟨rfl, rfl, by intro o ho; simp at ho; subst ho; exact trivial⟩
  · rintro cdv A outer s_ H E hr xs os r os' ⟨a0, a1, b0, rfl, rfl, rfl, t, rfl, h⟩ _
    have cg_law_taken := CG_law_taken (P := P) (w := w) (base := base) T hr (by decide)
    have f_range := T.f_range
    unfold m_law_stones at h
    refine sds_eq (ρ1 := ⟨1, [some (.loc 0), some (.d a1), none, none, none], [some (.lst a0)]⟩) ?_ rfl
    replace h := bnd h
    obtain ⟨⟨t1, o2⟩, h1, h⟩ := h
    refine sds_par 2 3 (ad_cons (ed_lstO ad_nil AllD.nil (by rw [sizeLine_eq]; exact Nat.le_of_ble_eq_true rfl)) (ad_cons (ed_callL (ns := [0]) cg_law_taken (ad_cons (ed_v rfl (.inl rfl) rfl rfl) (ad_cons ed_int ad_nil rfl) rfl) (.cons (.loc rfl) (.cons (.d _) .nil)) (Lend.one rfl trivial) ⟨_, _, _, rfl, rfl, rfl, _, rfl, h1⟩ rfl rfl rfl rfl rfl) ad_nil rfl) rfl) ?_ rfl nd rfl rfl (by decide) rfl rfl rfl rfl
    refine sds_eq (ρ1 := ⟨1, [some (.loc 0), some (.d a1), some (.loc 1), some (.d t1), none], [some (.lst o2), some (.lst [])]⟩) ?_ rfl
    replace h := bnd h
    obtain ⟨t3, h2, h⟩ := h
    replace h := bnd h
    obtain ⟨⟨t4, o5⟩, h3, h⟩ := h
    replace h := bnd h
    obtain ⟨t6, h4, h⟩ := h
    replace h := bnd h
    obtain ⟨⟨s25, l26, l27⟩, h15, h⟩ := h
    refine sds_forC (vs := [4]) (fun (z : D × List D × List D) => (match z with | (s7, l8, l9) => (⟨1, [some (.loc 0), some (.d a1), some (.loc 1), some (.d s7), none], [some (.lst l8), some (.lst l9)]⟩ : DL.Env))) (fun _ => rfl) _ (it_range1M (ed_callL (ns := [0]) cg_law_taken (ad_cons (ed_v rfl (.inl rfl) rfl rfl) (ad_cons (ed_addX (ed_v rfl (.inl rfl) rfl rfl) ed_int h2) ad_nil rfl) rfl) (.cons (.loc rfl) (.cons (.d _) .nil)) (Lend.one rfl trivial) ⟨_, _, _, rfl, rfl, rfl, _, rfl, h3⟩ rfl rfl rfl rfl rfl) h4 rfl f_range rfl) h15 ⟨rfl, (wkK (wkK (wkK (wkK (wkF wk0))))), _, rfl⟩ ?_ ?_ PassesOwn.never rfl (fun _ => rfl)
    · rintro d10 ⟨s7, l8, l9⟩ s_ h
      try dsimp only at h
      refine ⟨_, (tg_name 4 nd rfl (.inl rfl) (.inl rfl)), ?_⟩
      refine sds_eq (ρ1 := ⟨1, [some (.loc 0), some (.d a1), some (.loc 1), some (.d s7), some (.d d10)], [some (.lst l8), some (.lst l9)]⟩) ?_ rfl
      replace h := bnd h
      obtain ⟨⟨t11, o12⟩, h5, h⟩ := h
      replace h := bnd h
      obtain ⟨t13, h6, h⟩ := h
      replace h := bnd h
      obtain ⟨⟨t14, o15⟩, h7, h⟩ := h
      replace h := bnd h
      obtain ⟨t16, h8, h⟩ := h
      replace h := bnd h
      obtain ⟨t17, h9, h⟩ := h
      refine sds_expr (ed_appM (ed_v rfl (.inl rfl) rfl rfl) (ed_tup (ad_cons (ed_v rfl (.inl rfl) rfl rfl) (ad_cons (ed_addX ed_int (ed_callL (ns := [0]) cg_law_taken (ad_cons (ed_v rfl (.inl rfl) rfl rfl) (ad_cons (ed_ixM (ed_lst (ad_cons ed_int (ad_cons ed_int (ad_cons ed_int (ad_cons ed_int ad_nil rfl) rfl) rfl) rfl) allD4 (by rw [sizeLine_eq]; exact Nat.le_of_ble_eq_true rfl)) (ed_callL (ns := [0]) cg_law_taken (ad_cons (ed_v rfl (.inl rfl) rfl rfl) (ad_cons ed_int ad_nil rfl) rfl) (.cons (.loc rfl) (.cons (.d _) .nil)) (Lend.one rfl trivial) ⟨_, _, _, rfl, rfl, rfl, _, rfl, h5⟩ rfl rfl rfl rfl rfl) h6 (fun _ _ => rfl)) ad_nil rfl) rfl) (.cons (.loc rfl) (.cons (.d _) .nil)) (Lend.one rfl trivial) ⟨_, _, _, rfl, rfl, rfl, _, rfl, h7⟩ rfl rfl rfl rfl rfl) h8) ad_nil rfl) rfl) allD2 (by rw [sizeLine_eq]; exact Nat.le_of_ble_eq_true rfl)) rfl ⟨_, rfl⟩ h9 rfl rfl rfl rfl rfl) ?_ rfl
      refine sds_eq (ρ1 := ⟨1, [some (.loc 0), some (.d a1), some (.loc 1), some (.d s7), some (.d d10)], [some (.lst o15), some (.lst t17)]⟩) ?_ rfl
      replace h := bnd h
      obtain ⟨t18, h10, h⟩ := h
      replace h := bnd h
      obtain ⟨⟨t19, o20⟩, h11, h⟩ := h
      replace h := bnd h
      obtain ⟨t21, h12, h⟩ := h
      replace h := bnd h
      obtain ⟨⟨t22, o23⟩, h13, h⟩ := h
      replace h := bnd h
      obtain ⟨t24, h14, h⟩ := h
      refine sds_set 3 (ed_addX (ed_addX (ed_v rfl (.inl rfl) rfl rfl) ed_int h10) (ed_callL (ns := [0]) cg_law_taken (ad_cons (ed_v rfl (.inl rfl) rfl rfl) (ad_cons (ed_ixM (ed_lst (ad_cons ed_int (ad_cons ed_int (ad_cons ed_int ad_nil rfl) rfl) rfl) allD3 (by rw [sizeLine_eq]; exact Nat.le_of_ble_eq_true rfl)) (ed_callL (ns := [0]) cg_law_taken (ad_cons (ed_v rfl (.inl rfl) rfl rfl) (ad_cons ed_int ad_nil rfl) rfl) (.cons (.loc rfl) (.cons (.d _) .nil)) (Lend.one rfl trivial) ⟨_, _, _, rfl, rfl, rfl, _, rfl, h11⟩ rfl rfl rfl rfl rfl) h12 (fun _ _ => rfl)) ad_nil rfl) rfl) (.cons (.loc rfl) (.cons (.d _) .nil)) (Lend.one rfl trivial) ⟨_, _, _, rfl, rfl, rfl, _, rfl, h13⟩ rfl rfl rfl rfl rfl) h14) ?_ nd rfl (.inl rfl) rfl (.inl rfl)
      refine sds_eq (ρ1 := ⟨1, [some (.loc 0), some (.d a1), some (.loc 1), some (.d t24), some (.d d10)], [some (.lst o23), some (.lst t17)]⟩) ?_ rfl
      cases h
      exact sds_nil ⟨rfl, (wkK (wkK (wkK (wkK (wkF wk0))))), _, rfl⟩
    · try dsimp only at h
      refine sds_eq (ρ1 := ⟨1, [some (.loc 0), some (.d a1), some (.loc 1), some (.d s25), none], [some (.lst l26), some (.lst l27)]⟩) ?_ rfl
      cases h
      exact sds_ret (ED.fzL (ed_v rfl (.inl rfl) rfl rfl) rfl (Nat.le_of_ble_eq_true rfl) rfl) ⟨rfl, rfl⟩
end
theorem CG_law_stones {P : Program} {w : World} {K : PySem.W.Frag} {mg : Str → Option Value} {base : Heap} {A : Around} {k : Nat} (T : Tx K mg) (hr : Room k A) (h : 2 ≤ k) : CGs P w K mg base A "_law_stones" (R_law_stones (He.ga K)) := ⟨_, _, ok_law_stones T, hr.mono h, T.g_law_stones, kp_of T.d_law_stones⟩

/-! _law_row -/
noncomputable def m_law_row (a0 : D) : Option (D) :=
  (m_Row_init (.tup [])).bind fun t1 => (dSeq a0).bind fun t2 => (forS (fun d4 => fun (s3 : D) => (m_Row_init (.tup [d4])).bind fun t5 => (m_Row_add s3 t5).bind fun t6 => some t6) t2 t1).bind (fun (s7 : D) => some s7)
def R_law_row (G : Str → Addr) : FSpec := fun xs os r os' => ∃ (a0 : D) , xs = [.d a0] ∧ os = [] ∧ os' = [] ∧ ∃ t, r = (rowV (G "Row") t) ∧ m_law_row a0 = some t
section
variable {P : Program} {w : World} {K : PySem.W.Frag} {mg : Str → Option Value} {base : Heap}
set_option maxHeartbeats 4000000 in
theorem ok_law_row (T : Tx K mg) : FnR P w K mg base CX0 8 (He.ga K "_law_row") (spF K (R_law_row (He.ga K))) := by
  obtain ⟨fd, F⟩ := T.d_law_row
  have nd := sc_law_row.nd
  have hb : Binds K fd ["_law_stones_here"] [] := F.bindsN fun _ _ _ _ _ _ us hl => match us, hl with | [_], _ => rfl
  refine fn_D F sc_law_row hb ?_ ?_
  · rintro xs os r os' ⟨a0, rfl, rfl, rfl, t, rfl, _⟩
    exact ⟨rfl, rfl, by simp⟩
  · rintro cdv A outer s_ H E hr xs os r os' ⟨a0, rfl, rfl, rfl, t, rfl, h⟩ _
    have mk_Row_init := MK_Row_init (P := P) (w := w) (base := base) T hr (by decide)
    have cs_Row_add := CS_Row_add (P := P) (w := w) (base := base) T hr (by decide)
    unfold m_law_row at h
    refine sds_eq (ρ1 := ⟨0, [some (.d a0), none, none], []⟩) ?_ rfl
    replace h := bnd h
    obtain ⟨t1, h1, h⟩ := h
    refine sds_set 1 (ed_makeR0 mk_Row_init h1 rfl rfl) ?_ nd rfl (.inl rfl) rfl (.inl rfl)
    refine sds_eq (ρ1 := ⟨0, [some (.d a0), some (.d (rowV (He.ga K "Row") t1)), none], []⟩) ?_ rfl
    replace h := bnd h
    obtain ⟨t2, h2, h⟩ := h
    replace h := bnd h
    obtain ⟨s7, h5, h⟩ := h
    refine sds_forC (vs := [2]) (fun (s3 : D) => (⟨0, [some (.d a0), some (.d (rowV (He.ga K "Row") s3)), none], []⟩ : DL.Env)) (fun _ => rfl) _ (it_seqM (ed_v rfl (.inl rfl) rfl rfl) h2) h5 ⟨rfl, (wkK (wkK (wkF wk0))), _, rfl⟩ ?_ ?_ PassesOwn.never rfl (fun _ => rfl)
    · rintro d4 s3 s_ h
      try dsimp only at h
      refine ⟨_, (tg_name 2 nd rfl (.inl rfl) (.inl rfl)), ?_⟩
      refine sds_eq (ρ1 := ⟨0, [some (.d a0), some (.d (rowV (He.ga K "Row") s3)), some (.d d4)], []⟩) ?_ rfl
      replace h := bnd h
      obtain ⟨t5, h3, h⟩ := h
      replace h := bnd h
      obtain ⟨t6, h4, h⟩ := h
      refine sds_set 1 (ed_binO cs_Row_add (ed_v rfl (.inl rfl) rfl rfl) (ed_makeR mk_Row_init (ad_cons (ed_v rfl (.inl rfl) rfl rfl) ad_nil rfl) allD1 (by rw [sizeLine_eq]; exact Nat.le_of_ble_eq_true rfl) h3 rfl rfl rfl rfl) ⟨_, _, rfl, rfl, rfl, _, rfl, h4⟩) ?_ nd rfl (.inl rfl) rfl (.inl rfl)
      refine sds_eq (ρ1 := ⟨0, [some (.d a0), some (.d (rowV (He.ga K "Row") t6)), some (.d d4)], []⟩) ?_ rfl
      cases h
      exact sds_nil ⟨rfl, (wkK (wkK (wkF wk0))), _, rfl⟩
    · try dsimp only at h
      refine sds_eq (ρ1 := ⟨0, [some (.d a0), some (.d (rowV (He.ga K "Row") s7)), none], []⟩) ?_ rfl
      cases h
      exact sds_ret (ed_v rfl (.inl rfl) rfl rfl) ⟨rfl, rfl⟩
end
theorem CG_law_row {P : Program} {w : World} {K : PySem.W.Frag} {mg : Str → Option Value} {base : Heap} {A : Around} {k : Nat} (T : Tx K mg) (hr : Room k A) (h : 8 ≤ k) : CGs P w K mg base A "_law_row" (R_law_row (He.ga K)) := ⟨_, _, ok_law_row T, hr.mono h, T.g_law_row, kp_of T.d_law_row⟩

/-! _law_fallen -/
noncomputable def m_law_fallen (a0 : D) (a1 : D) (a2 : D) (a3 : D) : Option (D) :=
  (mSet [] a2 (.int 0)).bind fun t1 => (whileS (fun (z : D × D × DM) => (match z with | (s2, s3, l4) => (dNe s2 (.lst [])).bind fun t35 => some t35)) (fun (z : D × D × DM) => (match z with | (s2, s3, l4) => (dAddX s3 (.int 1)).bind fun t5 => (dSeq s2).bind fun t6 => (forS (fun d9 => fun (z : DM × List D) => (match z with | (l7, l8) => (dIx a0 d9).bind fun t10 => (dUn2 t10).bind fun z => (match z with | (x11, x12) => (dSeq a1).bind fun t13 => (forS (fun d16 => fun (z : DM × List D) => (match z with | (l14, l15) => (dEq a3 (.str "right")).bind fun t17 => (cond t17 ((dIx a0 d16).bind fun t18 => (dIx t18 (.int 0)).bind fun t19 => (dSub t19 x11).bind fun t20 => some t20) ((dIx a0 d16).bind fun t21 => (dIx t21 (.int 0)).bind fun t22 => (dSub x11 t22).bind fun t23 => some t23)).bind fun t24 => (dLt (.int 0) t24).bind fun t25 => (dLe t24 x12).bind fun t26 => (cond (t25 && t26) ((hasN (mHas l14 d16)).bind fun t27 => some t27) (some false)).bind fun t28 => cond t28 ((mSet l14 d16 t5).bind fun t29 => (lApp l15 d16).bind fun t30 => some (t29, t30)) (some (l14, l15)))) t13 (l7, l8)).bind (fun (z : DM × List D) => (match z with | (l31, l32) => some (l31, l32)))))) t6 (l4, [])).bind (fun (z : DM × List D) => (match z with | (l33, l34) => some ((.lst l34), t5, l33))))) fuel ((.lst [a2]), (.int 0), t1)).bind (fun (z : D × D × DM) => (match z with | (s36, s37, l38) => some (dcD l38)))
def R_law_fallen (G : Str → Addr) : FSpec := fun xs os r os' => ∃ (a0 : D) (a1 : D) (a2 : D) (a3 : D) , xs = [.d a0, .d a1, .d a2, .d a3] ∧ os = [] ∧ os' = [] ∧ ∃ t, r = t ∧ m_law_fallen a0 a1 a2 a3 = some t
section
variable {P : Program} {w : World} {K : PySem.W.Frag} {mg : Str → Option Value} {base : Heap}
set_option maxHeartbeats 4000000 in
theorem ok_law_fallen (T : Tx K mg) : FnR P w K mg base CX0 1 (He.ga K "_law_fallen") (spF K (R_law_fallen (He.ga K))) := by
  obtain ⟨fd, F⟩ := T.d_law_fallen
  have nd := sc_law_fallen.nd
  have hb : Binds K fd ["_law_stones_here", "_law_standing", "_law_stone", "_law_side"] [] := F.bindsN fun _ _ _ _ _ _ us hl => match us, hl with | [_, _, _, _], _ => rfl
  refine fn_D F sc_law_fallen hb ?_ ?_
  · rintro xs os r os' ⟨a0, a1, a2, a3, rfl, rfl, rfl, t, rfl, _⟩
    exact ⟨rfl, rfl, by simp⟩
  · rintro cdv A outer s_ H E hr xs os r os' ⟨a0, a1, a2, a3, rfl, rfl, rfl, t, rfl, h⟩ _
    have hu := room_u hr
    have hu1 := room_u1 hr
    unfold m_law_fallen at h
    refine sds_eq (ρ1 := ⟨0, [some (.d a0), some (.d a1), some (.d a2), some (.d a3), none, none, none, none, none, none, none, none, none], []⟩) ?_ rfl
    replace h := bnd h
    obtain ⟨t1, h1, h⟩ := h
    refine sds_par3 4 5 6 (ad_cons (ed_dispO (kpos := default) (ed_v rfl (.inl rfl) rfl rfl) ed_int h1) (ad_cons (ed_lst (ad_cons (ed_v rfl (.inl rfl) rfl rfl) ad_nil rfl) allD1 (by rw [sizeLine_eq]; exact Nat.le_of_ble_eq_true rfl)) (ad_cons ed_int ad_nil rfl) rfl) rfl) ?_ rfl nd rfl rfl rfl (by decide) (by decide) (by decide) rfl rfl rfl rfl rfl
    refine sds_eq (ρ1 := ⟨0, [some (.d a0), some (.d a1), some (.d a2), some (.d a3), some (.loc 0), some (.d (.lst [a2])), some (.d (.int 0)), none, none, none, none, none, none], [some (.dic (dKs t1) (dVs t1))]⟩) ?_ rfl
    replace h := bnd h
    obtain ⟨⟨s36, s37, l38⟩, h24, h⟩ := h
    refine sds_whileC (fun (z : D × D × DM) => (match z with | (s2, s3, l4) => (⟨0, [some (.d a0), some (.d a1), some (.d a2), some (.d a3), some (.loc 0), some (.d s2), some (.d s3), none, none, none, none, none, none], [some (.dic (dKs l4) (dVs l4))]⟩ : DL.Env))) (fun _ => rfl) _ _ h24 ⟨rfl, (wkK (wkK (wkK (wkK (wkK (wkK (wkK (wkF (wkF (wkF (wkF (wkF (wkF wk0))))))))))))), _, rfl⟩ ?_ ?_ ?_ PassesOwn.never
    · rintro ⟨s2, s3, l4⟩ p_ h
      try dsimp only at h
      replace h := bnd h
      obtain ⟨t35, h23, h⟩ := h
      exact TD.sm h (td_neM hu (ed_v rfl (.inl rfl) rfl rfl) (ed_lst ad_nil AllD.nil (by rw [sizeLine_eq]; exact Nat.le_of_ble_eq_true rfl)) h23 rfl)
    · rintro ⟨s2, s3, l4⟩ s_ h
      try dsimp only at h
      refine sds_eq (ρ1 := ⟨0, [some (.d a0), some (.d a1), some (.d a2), some (.d a3), some (.loc 0), some (.d s2), some (.d s3), none, none, none, none, none, none], [some (.dic (dKs l4) (dVs l4))]⟩) ?_ rfl
      replace h := bnd h
      obtain ⟨t5, h2, h⟩ := h
      refine sds_par 6 7 (ad_cons (ed_addX (ed_v rfl (.inl rfl) rfl rfl) ed_int h2) (ad_cons (ed_lstO ad_nil AllD.nil (by rw [sizeLine_eq]; exact Nat.le_of_ble_eq_true rfl)) ad_nil rfl) rfl) ?_ rfl nd rfl rfl (by decide) rfl rfl rfl rfl
      refine sds_eq (ρ1 := ⟨0, [some (.d a0), some (.d a1), some (.d a2), some (.d a3), some (.loc 0), some (.d s2), some (.d t5), some (.loc 1), none, none, none, none, none], [some (.dic (dKs l4) (dVs l4)), some (.lst [])]⟩) ?_ rfl
      replace h := bnd h
      obtain ⟨t6, h3, h⟩ := h
      replace h := bnd h
      obtain ⟨⟨l33, l34⟩, h22, h⟩ := h
      refine sds_forC (vs := [8]) (fun (z : DM × List D) => (match z with | (l7, l8) => (⟨0, [some (.d a0), some (.d a1), some (.d a2), some (.d a3), some (.loc 0), some (.d s2), some (.d t5), some (.loc 1), none, none, none, none, none], [some (.dic (dKs l7) (dVs l7)), some (.lst l8)]⟩ : DL.Env))) (fun _ => rfl) _ (it_seqM (ed_v rfl (.inl rfl) rfl rfl) h3) h22 ⟨rfl, (wkK (wkK (wkK (wkK (wkK (wkK (wkK (wkK (wkF (wkF (wkF (wkF (wkF wk0))))))))))))), _, rfl⟩ ?_ ?_ PassesOwn.never rfl (fun _ => rfl)
      · rintro d9 ⟨l7, l8⟩ s_ h
        try dsimp only at h
        refine ⟨_, (tg_name 8 nd rfl (.inl rfl) (.inl rfl)), ?_⟩
        refine sds_eq (ρ1 := ⟨0, [some (.d a0), some (.d a1), some (.d a2), some (.d a3), some (.loc 0), some (.d s2), some (.d t5), some (.loc 1), some (.d d9), none, none, none, none], [some (.dic (dKs l7) (dVs l7)), some (.lst l8)]⟩) ?_ rfl
        replace h := bnd h
        obtain ⟨t10, h4, h⟩ := h
        replace h := bnd h
        obtain ⟨⟨x11, x12⟩, h5, h⟩ := h
        refine sds_un2 9 10 (ed_ixM (ed_v rfl (.inl rfl) rfl rfl) (ed_v rfl (.inl rfl) rfl rfl) h4 (fun _ _ => rfl)) h5 ?_ nd rfl rfl rfl (.inl rfl) (.inl rfl) (.inl rfl) (.inl rfl) rfl rfl
        refine sds_eq (ρ1 := ⟨0, [some (.d a0), some (.d a1), some (.d a2), some (.d a3), some (.loc 0), some (.d s2), some (.d t5), some (.loc 1), some (.d d9), some (.d x11), some (.d x12), none, none], [some (.dic (dKs l7) (dVs l7)), some (.lst l8)]⟩) ?_ rfl
        replace h := bnd h
        obtain ⟨t13, h6, h⟩ := h
        replace h := bnd h
        obtain ⟨⟨l31, l32⟩, h21, h⟩ := h
        refine sds_forC (vs := [11]) (fun (z : DM × List D) => (match z with | (l14, l15) => (⟨0, [some (.d a0), some (.d a1), some (.d a2), some (.d a3), some (.loc 0), some (.d s2), some (.d t5), some (.loc 1), some (.d d9), some (.d x11), some (.d x12), none, none], [some (.dic (dKs l14) (dVs l14)), some (.lst l15)]⟩ : DL.Env))) (fun _ => rfl) _ (it_seqM (ed_v rfl (.inl rfl) rfl rfl) h6) h21 ⟨rfl, (wkK (wkK (wkK (wkK (wkK (wkK (wkK (wkK (wkK (wkK (wkK (wkF (wkF wk0))))))))))))), _, rfl⟩ ?_ ?_ PassesOwn.never rfl (fun _ => rfl)
        · rintro d16 ⟨l14, l15⟩ s_ h
          try dsimp only at h
          refine ⟨_, (tg_name 11 nd rfl (.inl rfl) (.inl rfl)), ?_⟩
          refine sds_eq (ρ1 := ⟨0, [some (.d a0), some (.d a1), some (.d a2), some (.d a3), some (.loc 0), some (.d s2), some (.d t5), some (.loc 1), some (.d d9), some (.d x11), some (.d x12), some (.d d16), none], [some (.dic (dKs l14) (dVs l14)), some (.lst l15)]⟩) ?_ rfl
          replace h := bnd h
          obtain ⟨t17, h7, h⟩ := h
          replace h := bnd h
          obtain ⟨t24, h14, h⟩ := h
          refine sds_set 12 (ed_ifM (td_eqM hu (ed_v rfl (.inl rfl) rfl rfl) ed_str h7 rfl) h14 (fun h => by replace h := bnd h; obtain ⟨t18, h8, h⟩ := h; replace h := bnd h; obtain ⟨t19, h9, h⟩ := h; replace h := bnd h; obtain ⟨t20, h10, h⟩ := h; exact ED.sm (A := none) h (ed_subM (ed_ixM (ed_ixM (ed_v rfl (.inl rfl) rfl rfl) (ed_v rfl (.inl rfl) rfl rfl) h8 (fun _ _ => rfl)) ed_int h9 (fun _ _ => rfl)) (ed_v rfl (.inl rfl) rfl rfl) h10)) (fun h => by replace h := bnd h; obtain ⟨t21, h11, h⟩ := h; replace h := bnd h; obtain ⟨t22, h12, h⟩ := h; replace h := bnd h; obtain ⟨t23, h13, h⟩ := h; exact ED.sm (A := none) h (ed_subM (ed_v rfl (.inl rfl) rfl rfl) (ed_ixM (ed_ixM (ed_v rfl (.inl rfl) rfl rfl) (ed_v rfl (.inl rfl) rfl rfl) h11 (fun _ _ => rfl)) ed_int h12 (fun _ _ => rfl)) h13))) ?_ nd rfl (.inl rfl) rfl (.inl rfl)
          refine sds_eq (ρ1 := ⟨0, [some (.d a0), some (.d a1), some (.d a2), some (.d a3), some (.loc 0), some (.d s2), some (.d t5), some (.loc 1), some (.d d9), some (.d x11), some (.d x12), some (.d d16), some (.d t24)], [some (.dic (dKs l14) (dVs l14)), some (.lst l15)]⟩) ?_ rfl
          replace h := bnd h
          obtain ⟨t25, h15, h⟩ := h
          replace h := bnd h
          obtain ⟨t26, h16, h⟩ := h
          replace h := bnd h
          obtain ⟨t28, h18, h⟩ := h
          refine sds_ifM (TW.td (tw_andM (td_ltleM ed_int (ed_v rfl (.inl rfl) rfl rfl) (ed_v rfl (.inl rfl) rfl rfl) h15 h16 rfl) h18 (fun h => by replace h := bnd h; obtain ⟨t27, h17, h⟩ := h; exact TW.sm h (tw_and1 (td_ninOD hu1 (ed_v rfl (.inl rfl) rfl rfl) (ed_v rfl (.inl rfl) rfl rfl) rfl h17 rfl))))) h (fun h => ?_) (fun h => ?_)
          · replace h := bnd h
            obtain ⟨t29, h19, h⟩ := h
            refine sds_dputM hu1 (ed_v rfl (.inl rfl) rfl rfl) (ed_v rfl (.inl rfl) rfl rfl) (ed_v rfl (.inl rfl) rfl rfl) rfl h19 ?_ rfl
            refine sds_eq (ρ1 := ⟨0, [some (.d a0), some (.d a1), some (.d a2), some (.d a3), some (.loc 0), some (.d s2), some (.d t5), some (.loc 1), some (.d d9), some (.d x11), some (.d x12), some (.d d16), some (.d t24)], [some (.dic (dKs t29) (dVs t29)), some (.lst l15)]⟩) ?_ rfl
            replace h := bnd h
            obtain ⟨t30, h20, h⟩ := h
            refine sds_expr (ed_appM (ed_v rfl (.inl rfl) rfl rfl) (ed_v rfl (.inl rfl) rfl rfl) rfl ⟨_, rfl⟩ h20 rfl rfl rfl rfl rfl) ?_ rfl
            refine sds_eq (ρ1 := ⟨0, [some (.d a0), some (.d a1), some (.d a2), some (.d a3), some (.loc 0), some (.d s2), some (.d t5), some (.loc 1), some (.d d9), some (.d x11), some (.d x12), some (.d d16), some (.d t24)], [some (.dic (dKs t29) (dVs t29)), some (.lst t30)]⟩) ?_ rfl
            refine sds_nil ?_
            cases h
            exact sds_nil ⟨rfl, (wkK (wkK (wkK (wkK (wkK (wkK (wkK (wkK (wkK (wkK (wkK (wkF (wkF wk0))))))))))))), _, rfl⟩
          · refine sds_nil ?_
            cases h
            exact sds_nil ⟨rfl, (wkK (wkK (wkK (wkK (wkK (wkK (wkK (wkK (wkK (wkK (wkK (wkF (wkF wk0))))))))))))), _, rfl⟩
        · try dsimp only at h
          refine sds_eq (ρ1 := ⟨0, [some (.d a0), some (.d a1), some (.d a2), some (.d a3), some (.loc 0), some (.d s2), some (.d t5), some (.loc 1), some (.d d9), some (.d x11), some (.d x12), none, none], [some (.dic (dKs l31) (dVs l31)), some (.lst l32)]⟩) ?_ rfl
          cases h
          exact sds_nil ⟨rfl, (wkK (wkK (wkK (wkK (wkK (wkK (wkK (wkK (wkF (wkF (wkF (wkF (wkF wk0))))))))))))), _, rfl⟩
      · try dsimp only at h
        refine sds_eq (ρ1 := ⟨0, [some (.d a0), some (.d a1), some (.d a2), some (.d a3), some (.loc 0), some (.d s2), some (.d t5), some (.loc 1), none, none, none, none, none], [some (.dic (dKs l33) (dVs l33)), some (.lst l34)]⟩) ?_ rfl
        refine sds_set 5 (ED.fzL (ed_v rfl (.inl rfl) rfl rfl) rfl (Nat.le_of_ble_eq_true rfl) rfl) ?_ nd rfl (.inl rfl) rfl (.inl rfl)
        refine sds_eq (ρ1 := ⟨0, [some (.d a0), some (.d a1), some (.d a2), some (.d a3), some (.loc 0), some (.d (.lst l34)), some (.d t5), some (.d (.lst l34)), none, none, none, none, none], [some (.dic (dKs l33) (dVs l33)), none]⟩) ?_ rfl
        cases h
        exact sds_nil ⟨rfl, (wkK (wkK (wkK (wkK (wkK (wkK (wkK (wkF (wkF (wkF (wkF (wkF (wkF wk0))))))))))))), _, rfl⟩
    · try dsimp only at h
      refine sds_eq (ρ1 := ⟨0, [some (.d a0), some (.d a1), some (.d a2), some (.d a3), some (.loc 0), some (.d s36), some (.d s37), none, none, none, none, none, none], [some (.dic (dKs l38) (dVs l38))]⟩) ?_ rfl
      cases h
      exact sds_ret (ED.fzK (ed_v rfl (.inl rfl) rfl rfl) rfl (Nat.le_of_ble_eq_true rfl)) ⟨rfl, rfl⟩
end
theorem CG_law_fallen {P : Program} {w : World} {K : PySem.W.Frag} {mg : Str → Option Value} {base : Heap} {A : Around} {k : Nat} (T : Tx K mg) (hr : Room k A) (h : 1 ≤ k) : CGs P w K mg base A "_law_fallen" (R_law_fallen (He.ga K)) := ⟨_, _, ok_law_fallen T, hr.mono h, T.g_law_fallen, kp_of T.d_law_fallen⟩

/-! _law_played -/
noncomputable def m_law_played (a0 : D) (a1 : D) (a2 : List D) : Option (D × List D) :=
  (dLen a1).bind fun t1 => (dEq t1 (.int 1)).bind fun t2 => cond t2 ((dIx a1 (.int 0)).bind fun t3 => (m_falls_by a0 (.tup [t3])).bind fun z => (match z with | (l4, b5) => (GX.forH (τ := D × List D) (fun d7 => fun (l6 : List D) => (lApp l6 d7).bind fun t8 => some (.nx t8)) l4 b5 a2).bind fun z => (match z with | .nx l9 => some (.non, l9) | .rt t => some t | .bk _ => none))) ((dLen a1).bind fun t11 => (dEq t11 (.int 2)).bind fun t12 => cond t12 ((dIx a1 (.int 0)).bind fun t13 => (dIx a1 (.int 1)).bind fun t14 => (m_falls_by a0 (.tup [t13, t14])).bind fun z => (match z with | (l15, b16) => (GX.forH (τ := D × List D) (fun d18 => fun (l17 : List D) => (lApp l17 d18).bind fun t19 => some (.nx t19)) l15 b16 a2).bind fun z => (match z with | .nx l20 => some (.non, l20) | .rt t => some t | .bk _ => none))) ((dLen a1).bind fun t22 => (dEq t22 (.int 3)).bind fun t23 => cond t23 ((dIx a1 (.int 0)).bind fun t24 => (dIx a1 (.int 1)).bind fun t25 => (dIx a1 (.int 2)).bind fun t26 => (m_falls_by a0 (.tup [t24, t25, t26])).bind fun z => (match z with | (l27, b28) => (GX.forH (τ := D × List D) (fun d30 => fun (l29 : List D) => (lApp l29 d30).bind fun t31 => some (.nx t31)) l27 b28 a2).bind fun z => (match z with | .nx l32 => some (.non, l32) | .rt t => some t | .bk _ => none))) ((dIx a1 (.int 0)).bind fun t34 => (dIx a1 (.int 1)).bind fun t35 => (dIx a1 (.int 2)).bind fun t36 => (dIx a1 (.int 3)).bind fun t37 => (m_falls_by a0 (.tup [t34, t35, t36, t37])).bind fun z => (match z with | (l38, b39) => (GX.forH (τ := D × List D) (fun d41 => fun (l40 : List D) => (lApp l40 d41).bind fun t42 => some (.nx t42)) l38 b39 a2).bind fun z => (match z with | .nx l43 => some (.non, l43) | .rt t => some t | .bk _ => none)))))
def R_law_played (G : Str → Addr) : FSpec := fun xs os r os' => ∃ (a0 : D) (a1 : D) (a2 : List D) (b0 : List D), xs = [.d (rowV (G "Row") a0), .d a1, .loc 0] ∧ os = [.lst a2] ∧ os' = [.lst b0] ∧ ∃ t, r = t ∧ m_law_played a0 a1 a2 = some (t, b0)
section
variable {P : Program} {w : World} {K : PySem.W.Frag} {mg : Str → Option Value} {base : Heap}
set_option maxHeartbeats 4000000 in
theorem ok_law_played (T : Tx K mg) : FnR P w K mg base CX0 11 (He.ga K "_law_played") (spF K (R_law_played (He.ga K))) := by
  obtain ⟨fd, F⟩ := T.d_law_played
  have nd := sc_law_played.nd
  have hb : Binds K fd ["_law_one", "_law_pushes", "_law_found"] [] := F.bindsN fun _ _ _ _ _ _ us hl => match us, hl with | [_, _, _], _ => rfl
  refine fn_D F sc_law_played hb ?_ ?_
  · rintro xs os r os' ⟨a0, a1, a2, b0, rfl, rfl, rfl, t, rfl, _⟩
    exact ⟨rfl, rfl, by intro o ho; simp at ho; subst ho; exact trivial⟩
  · rintro cdv A outer s_ H E hr xs os r os' ⟨a0, a1, a2, b0, rfl, rfl, rfl, t, rfl, h⟩ _
    have f_len := T.f_len
    have hu := room_u hr
    have cg_falls_by := CG_falls_by (P := P) (w := w) (base := base) T hr (by decide)
    unfold m_law_played at h
    refine sds_eq (ρ1 := ⟨1, [some (.d (rowV (He.ga K "Row") a0)), some (.d a1), some (.loc 0), none], [some (.lst a2)]⟩) ?_ rfl
    replace h := bnd h
    obtain ⟨t1, h1, h⟩ := h
    replace h := bnd h
    obtain ⟨t2, h2, h⟩ := h
    refine sds_ifM (td_eqM hu (ed_blt (cb_lenM h1) (ad_cons (ed_v rfl (.inl rfl) rfl rfl) ad_nil rfl) f_len boot_len rfl (by decide) rfl rfl rfl) ed_int h2 rfl) h (fun h => ?_) (fun h => ?_)
    · replace h := bnd h
      obtain ⟨t3, h3, h⟩ := h
      replace h := bnd h
      obtain ⟨⟨l4, b5⟩, h4, h⟩ := h
      replace h := bnd h
      obtain ⟨fl10, h6, h⟩ := h
      refine GX.sds_forHC (vs := [3]) (fun (l6 : List D) => (⟨1, [some (.d (rowV (He.ga K "Row") a0)), some (.d a1), some (.loc 0), none], [some (.lst l6)]⟩ : DL.Env)) (fun _ => rfl) (fun (t : D × List D) d ow => d = t.1 ∧ ow.take 1 = [some (.lst t.2)]) _ (GX.ge_call cg_falls_by (ad_cons (ed_v rfl (.inl rfl) rfl rfl) (ad_cons (ed_ixM (ed_v rfl (.inl rfl) rfl rfl) ed_int h3 (fun _ _ => rfl)) ad_nil rfl) rfl) allD2 ⟨_, _, rfl, (by rw [sizeLine_eq]; exact Nat.le_of_ble_eq_true rfl), _, _, _, rfl, h4, rfl⟩ rfl rfl rfl rfl) h6 ⟨rfl, (wkK (wkK (wkK (wkF wk0)))), _, rfl⟩ ?_ ?_ ?_ (fun _ _ h => h) rfl (fun _ => rfl)
      · rintro d7 l6 fl_ h
        try dsimp only at h
        refine ⟨_, (tg_name 3 nd rfl (.inl rfl) (.inl rfl)), ?_⟩
        refine sds_eq (ρ1 := ⟨1, [some (.d (rowV (He.ga K "Row") a0)), some (.d a1), some (.loc 0), some (.d d7)], [some (.lst l6)]⟩) ?_ rfl
        replace h := bnd h
        obtain ⟨t8, h5, h⟩ := h
        refine sds_expr (ed_appM (ed_v rfl (.inl rfl) rfl rfl) (ed_v rfl (.inl rfl) rfl rfl) rfl ⟨_, rfl⟩ h5 rfl rfl rfl rfl rfl) ?_ rfl
        refine sds_eq (ρ1 := ⟨1, [some (.d (rowV (He.ga K "Row") a0)), some (.d a1), some (.loc 0), some (.d d7)], [some (.lst t8)]⟩) ?_ rfl
        cases h
        exact sds_nil ⟨(GX.alO_cons GX.alO_nil), _, rfl, ⟨rfl, (wkK (wkK (wkK (wkF wk0)))), _, rfl⟩⟩
      · rintro l9 rfl
        try dsimp only at h
        refine sds_eq (ρ1 := ⟨1, [some (.d (rowV (He.ga K "Row") a0)), some (.d a1), some (.loc 0), none], [some (.lst l9)]⟩) ?_ rfl
        refine sds_nil ?_
        cases h
        exact sds_nil ⟨rfl, rfl⟩
      · rintro t d_ ow_ rfl hrt
        try dsimp only at h
        cases h
        exact ⟨hrt.1, hrt.2⟩
    · replace h := bnd h
      obtain ⟨t11, h7, h⟩ := h
      replace h := bnd h
      obtain ⟨t12, h8, h⟩ := h
      refine sds_ifM (td_eqM hu (ed_blt (cb_lenM h7) (ad_cons (ed_v rfl (.inl rfl) rfl rfl) ad_nil rfl) f_len boot_len rfl (by decide) rfl rfl rfl) ed_int h8 rfl) h (fun h => ?_) (fun h => ?_)
      · replace h := bnd h
        obtain ⟨t13, h9, h⟩ := h
        replace h := bnd h
        obtain ⟨t14, h10, h⟩ := h
        replace h := bnd h
        obtain ⟨⟨l15, b16⟩, h11, h⟩ := h
        replace h := bnd h
        obtain ⟨fl21, h13, h⟩ := h
        refine GX.sds_forHC (vs := [3]) (fun (l17 : List D) => (⟨1, [some (.d (rowV (He.ga K "Row") a0)), some (.d a1), some (.loc 0), none], [some (.lst l17)]⟩ : DL.Env)) (fun _ => rfl) (fun (t : D × List D) d ow => d = t.1 ∧ ow.take 1 = [some (.lst t.2)]) _ (GX.ge_call cg_falls_by (ad_cons (ed_v rfl (.inl rfl) rfl rfl) (ad_cons (ed_ixM (ed_v rfl (.inl rfl) rfl rfl) ed_int h9 (fun _ _ => rfl)) (ad_cons (ed_ixM (ed_v rfl (.inl rfl) rfl rfl) ed_int h10 (fun _ _ => rfl)) ad_nil rfl) rfl) rfl) allD3 ⟨_, _, rfl, (by rw [sizeLine_eq]; exact Nat.le_of_ble_eq_true rfl), _, _, _, rfl, h11, rfl⟩ rfl rfl rfl rfl) h13 ⟨rfl, (wkK (wkK (wkK (wkF wk0)))), _, rfl⟩ ?_ ?_ ?_ (fun _ _ h => h) rfl (fun _ => rfl)
        · rintro d18 l17 fl_ h
          try dsimp only at h
          refine ⟨_, (tg_name 3 nd rfl (.inl rfl) (.inl rfl)), ?_⟩
          refine sds_eq (ρ1 := ⟨1, [some (.d (rowV (He.ga K "Row") a0)), some (.d a1), some (.loc 0), some (.d d18)], [some (.lst l17)]⟩) ?_ rfl
          replace h := bnd h
          obtain ⟨t19, h12, h⟩ := h
          refine sds_expr (ed_appM (ed_v rfl (.inl rfl) rfl rfl) (ed_v rfl (.inl rfl) rfl rfl) rfl ⟨_, rfl⟩ h12 rfl rfl rfl rfl rfl) ?_ rfl
          refine sds_eq (ρ1 := ⟨1, [some (.d (rowV (He.ga K "Row") a0)), some (.d a1), some (.loc 0), some (.d d18)], [some (.lst t19)]⟩) ?_ rfl
          cases h
          exact sds_nil ⟨(GX.alO_cons GX.alO_nil), _, rfl, ⟨rfl, (wkK (wkK (wkK (wkF wk0)))), _, rfl⟩⟩
        · rintro l20 rfl
          try dsimp only at h
          refine sds_eq (ρ1 := ⟨1, [some (.d (rowV (He.ga K "Row") a0)), some (.d a1), some (.loc 0), none], [some (.lst l20)]⟩) ?_ rfl
          refine sds_nil ?_
          refine sds_nil ?_
          cases h
          exact sds_nil ⟨rfl, rfl⟩
        · rintro t d_ ow_ rfl hrt
          try dsimp only at h
          cases h
          exact ⟨hrt.1, hrt.2⟩
      · replace h := bnd h
        obtain ⟨t22, h14, h⟩ := h
        replace h := bnd h
        obtain ⟨t23, h15, h⟩ := h
        refine sds_ifM (td_eqM hu (ed_blt (cb_lenM h14) (ad_cons (ed_v rfl (.inl rfl) rfl rfl) ad_nil rfl) f_len boot_len rfl (by decide) rfl rfl rfl) ed_int h15 rfl) h (fun h => ?_) (fun h => ?_)
        · replace h := bnd h
          obtain ⟨t24, h16, h⟩ := h
          replace h := bnd h
          obtain ⟨t25, h17, h⟩ := h
          replace h := bnd h
          obtain ⟨t26, h18, h⟩ := h
          replace h := bnd h
          obtain ⟨⟨l27, b28⟩, h19, h⟩ := h
          replace h := bnd h
          obtain ⟨fl33, h21, h⟩ := h
          refine GX.sds_forHC (vs := [3]) (fun (l29 : List D) => (⟨1, [some (.d (rowV (He.ga K "Row") a0)), some (.d a1), some (.loc 0), none], [some (.lst l29)]⟩ : DL.Env)) (fun _ => rfl) (fun (t : D × List D) d ow => d = t.1 ∧ ow.take 1 = [some (.lst t.2)]) _ (GX.ge_call cg_falls_by (ad_cons (ed_v rfl (.inl rfl) rfl rfl) (ad_cons (ed_ixM (ed_v rfl (.inl rfl) rfl rfl) ed_int h16 (fun _ _ => rfl)) (ad_cons (ed_ixM (ed_v rfl (.inl rfl) rfl rfl) ed_int h17 (fun _ _ => rfl)) (ad_cons (ed_ixM (ed_v rfl (.inl rfl) rfl rfl) ed_int h18 (fun _ _ => rfl)) ad_nil rfl) rfl) rfl) rfl) allD4 ⟨_, _, rfl, (by rw [sizeLine_eq]; exact Nat.le_of_ble_eq_true rfl), _, _, _, rfl, h19, rfl⟩ rfl rfl rfl rfl) h21 ⟨rfl, (wkK (wkK (wkK (wkF wk0)))), _, rfl⟩ ?_ ?_ ?_ (fun _ _ h => h) rfl (fun _ => rfl)
          · rintro d30 l29 fl_ h
            try dsimp only at h
            refine ⟨_, (tg_name 3 nd rfl (.inl rfl) (.inl rfl)), ?_⟩
            refine sds_eq (ρ1 := ⟨1, [some (.d (rowV (He.ga K "Row") a0)), some (.d a1), some (.loc 0), some (.d d30)], [some (.lst l29)]⟩) ?_ rfl
            replace h := bnd h
            obtain ⟨t31, h20, h⟩ := h
            refine sds_expr (ed_appM (ed_v rfl (.inl rfl) rfl rfl) (ed_v rfl (.inl rfl) rfl rfl) rfl ⟨_, rfl⟩ h20 rfl rfl rfl rfl rfl) ?_ rfl
            refine sds_eq (ρ1 := ⟨1, [some (.d (rowV (He.ga K "Row") a0)), some (.d a1), some (.loc 0), some (.d d30)], [some (.lst t31)]⟩) ?_ rfl
            cases h
            exact sds_nil ⟨(GX.alO_cons GX.alO_nil), _, rfl, ⟨rfl, (wkK (wkK (wkK (wkF wk0)))), _, rfl⟩⟩
          · rintro l32 rfl
            try dsimp only at h
            refine sds_eq (ρ1 := ⟨1, [some (.d (rowV (He.ga K "Row") a0)), some (.d a1), some (.loc 0), none], [some (.lst l32)]⟩) ?_ rfl
            refine sds_nil ?_
            refine sds_nil ?_
            refine sds_nil ?_
            cases h
            exact sds_nil ⟨rfl, rfl⟩
          · rintro t d_ ow_ rfl hrt
            try dsimp only at h
            cases h
            exact ⟨hrt.1, hrt.2⟩
        · replace h := bnd h
          obtain ⟨t34, h22, h⟩ := h
          replace h := bnd h
          obtain ⟨t35, h23, h⟩ := h
          replace h := bnd h
          obtain ⟨t36, h24, h⟩ := h
          replace h := bnd h
          obtain ⟨t37, h25, h⟩ := h
          replace h := bnd h
          obtain ⟨⟨l38, b39⟩, h26, h⟩ := h
          replace h := bnd h
          obtain ⟨fl44, h28, h⟩ := h
          refine GX.sds_forHC (vs := [3]) (fun (l40 : List D) => (⟨1, [some (.d (rowV (He.ga K "Row") a0)), some (.d a1), some (.loc 0), none], [some (.lst l40)]⟩ : DL.Env)) (fun _ => rfl) (fun (t : D × List D) d ow => d = t.1 ∧ ow.take 1 = [some (.lst t.2)]) _ (GX.ge_call cg_falls_by (ad_cons (ed_v rfl (.inl rfl) rfl rfl) (ad_cons (ed_ixM (ed_v rfl (.inl rfl) rfl rfl) ed_int h22 (fun _ _ => rfl)) (ad_cons (ed_ixM (ed_v rfl (.inl rfl) rfl rfl) ed_int h23 (fun _ _ => rfl)) (ad_cons (ed_ixM (ed_v rfl (.inl rfl) rfl rfl) ed_int h24 (fun _ _ => rfl)) (ad_cons (ed_ixM (ed_v rfl (.inl rfl) rfl rfl) ed_int h25 (fun _ _ => rfl)) ad_nil rfl) rfl) rfl) rfl) rfl) allD5 ⟨_, _, rfl, (by rw [sizeLine_eq]; exact Nat.le_of_ble_eq_true rfl), _, _, _, rfl, h26, rfl⟩ rfl rfl rfl rfl) h28 ⟨rfl, (wkK (wkK (wkK (wkF wk0)))), _, rfl⟩ ?_ ?_ ?_ (fun _ _ h => h) rfl (fun _ => rfl)
          · rintro d41 l40 fl_ h
            try dsimp only at h
            refine ⟨_, (tg_name 3 nd rfl (.inl rfl) (.inl rfl)), ?_⟩
            refine sds_eq (ρ1 := ⟨1, [some (.d (rowV (He.ga K "Row") a0)), some (.d a1), some (.loc 0), some (.d d41)], [some (.lst l40)]⟩) ?_ rfl
            replace h := bnd h
            obtain ⟨t42, h27, h⟩ := h
            refine sds_expr (ed_appM (ed_v rfl (.inl rfl) rfl rfl) (ed_v rfl (.inl rfl) rfl rfl) rfl ⟨_, rfl⟩ h27 rfl rfl rfl rfl rfl) ?_ rfl
            refine sds_eq (ρ1 := ⟨1, [some (.d (rowV (He.ga K "Row") a0)), some (.d a1), some (.loc 0), some (.d d41)], [some (.lst t42)]⟩) ?_ rfl
            cases h
            exact sds_nil ⟨(GX.alO_cons GX.alO_nil), _, rfl, ⟨rfl, (wkK (wkK (wkK (wkF wk0)))), _, rfl⟩⟩
          · rintro l43 rfl
            try dsimp only at h
            refine sds_eq (ρ1 := ⟨1, [some (.d (rowV (He.ga K "Row") a0)), some (.d a1), some (.loc 0), none], [some (.lst l43)]⟩) ?_ rfl
            refine sds_nil ?_
            refine sds_nil ?_
            refine sds_nil ?_
            cases h
            exact sds_nil ⟨rfl, rfl⟩
          · rintro t d_ ow_ rfl hrt
            try dsimp only at h
            cases h
            exact ⟨hrt.1, hrt.2⟩
end
theorem CG_law_played {P : Program} {w : World} {K : PySem.W.Frag} {mg : Str → Option Value} {base : Heap} {A : Around} {k : Nat} (T : Tx K mg) (hr : Room k A) (h : 11 ≤ k) : CGs P w K mg base A "_law_played" (R_law_played (He.ga K)) := ⟨_, _, ok_law_played T, hr.mono h, T.g_law_played, kp_of T.d_law_played⟩

/-! x._law_played -/
noncomputable def x_law_played (a0 : D) (a1 : D) (a2 : List D) : Option (XN × List D) :=
  (dLen a1).bind fun t1 => (dEq t1 (.int 1)).bind fun t2 => cond t2 ((dIx a1 (.int 0)).bind fun t3 => (x_falls_by a0 (.tup [t3])).bind fun z => (match z with | (l4, x5) => (inL xcL x5.nm).bind fun _ => (forS (fun d7 => fun (l6 : List D) => (lApp l6 d7).bind fun t8 => some t8) l4 a2).bind fun l6 => some (x5, l6))) ((dLen a1).bind fun t9 => (dEq t9 (.int 2)).bind fun t10 => cond t10 ((dIx a1 (.int 0)).bind fun t11 => (dIx a1 (.int 1)).bind fun t12 => (x_falls_by a0 (.tup [t11, t12])).bind fun z => (match z with | (l13, x14) => (inL xcL x14.nm).bind fun _ => (forS (fun d16 => fun (l15 : List D) => (lApp l15 d16).bind fun t17 => some t17) l13 a2).bind fun l15 => some (x14, l15))) ((dLen a1).bind fun t18 => (dEq t18 (.int 3)).bind fun t19 => cond t19 ((dIx a1 (.int 0)).bind fun t20 => (dIx a1 (.int 1)).bind fun t21 => (dIx a1 (.int 2)).bind fun t22 => (x_falls_by a0 (.tup [t20, t21, t22])).bind fun z => (match z with | (l23, x24) => (inL xcL x24.nm).bind fun _ => (forS (fun d26 => fun (l25 : List D) => (lApp l25 d26).bind fun t27 => some t27) l23 a2).bind fun l25 => some (x24, l25))) ((dIx a1 (.int 0)).bind fun t28 => (dIx a1 (.int 1)).bind fun t29 => (dIx a1 (.int 2)).bind fun t30 => (dIx a1 (.int 3)).bind fun t31 => (x_falls_by a0 (.tup [t28, t29, t30, t31])).bind fun z => (match z with | (l32, x33) => (inL xcL x33.nm).bind fun _ => (forS (fun d35 => fun (l34 : List D) => (lApp l34 d35).bind fun t36 => some t36) l32 a2).bind fun l34 => some (x33, l34)))))
def RX_law_played (G : Str → Addr) : XSpec := fun xs os x os' => ∃ (a0 : D) (a1 : D) (a2 : List D) (b0 : List D), xs = [.d (rowV (G "Row") a0), .d a1, .loc 0] ∧ os = [.lst a2] ∧ os' = [.lst b0] ∧ ∃ t : XN, x = t.xv G ∧ x_law_played a0 a1 a2 = some (t, b0)
section
variable {P : Program} {w : World} {K : PySem.W.Frag} {mg : Str → Option Value} {base : Heap}
set_option maxHeartbeats 4000000 in
theorem xok_law_played (T : Tx K mg) : FnR P w K mg base (L2.CX P w) 11 (He.ga K "_law_played") (spX K (RX_law_played (He.ga K))) := by
  obtain ⟨fd, F⟩ := T.d_law_played
  have nd := sc_law_played.nd
  have hb : Binds K fd ["_law_one", "_law_pushes", "_law_found"] [] := F.bindsN fun _ _ _ _ _ _ us hl => match us, hl with | [_, _, _], _ => rfl
  refine fnX_D F sc_law_played hb ?_ ?_
  · rintro xs os r os' ⟨a0, a1, a2, b0, rfl, rfl, rfl, t, rfl, _⟩
    exact ⟨rfl, rfl, by intro o ho; simp at ho; subst ho; exact trivial⟩
  · rintro cdv A outer s_ H E hr xs os r os' ⟨a0, a1, a2, b0, rfl, rfl, rfl, t, rfl, h⟩ _
    have tk : Lets (cxOf (L2.CX P w) P w K mg base n_law_played "_law_played" (defScope s_law_played) (He.ga K "_law_played") cdv A outer s_ H E) E := cx_lets
    have f_len := T.f_len
    have hu := room_u hr
    have xg_falls_by := XG_falls_by (P := P) (w := w) (base := base) T hr (by decide)
    unfold x_law_played at h
    refine sx_eq (ρ1 := ⟨1, [some (.d (rowV (He.ga K "Row") a0)), some (.d a1), some (.loc 0), none], [some (.lst a2)]⟩) ?_ rfl
    replace h := bnd h
    obtain ⟨t1, h1, h⟩ := h
    replace h := bnd h
    obtain ⟨t2, h2, h⟩ := h
    refine sx_ifM (td_eqM hu (ed_blt (cb_lenM h1) (ad_cons (ed_v rfl (.inl rfl) rfl rfl) ad_nil rfl) f_len boot_len rfl (by decide) rfl rfl rfl) ed_int h2 rfl) h (fun h => ?_) (fun h => ?_)
    · replace h := bnd h
      obtain ⟨t3, h3, h⟩ := h
      replace h := bnd h
      obtain ⟨⟨l4, x5⟩, h4, h⟩ := h
      replace h := bnd h
      obtain ⟨_, h5, h⟩ := h
      replace h := bnd h
      obtain ⟨l6, h7, h⟩ := h
      cases h
      refine GX.sx_forHX (vs := [3]) (fun (l6 : List D) => (⟨1, [some (.d (rowV (He.ga K "Row") a0)), some (.d a1), some (.loc 0), none], [some (.lst l6)]⟩ : DL.Env)) (fun _ => rfl) _ tk (by first | exact PassesOwn.never | exact L2.passes_of rfl) (T.nsi _ (inL_ok h5)) (GX.ge_call xg_falls_by (ad_cons (ed_v rfl (.inl rfl) rfl rfl) (ad_cons (ed_ixM (ed_v rfl (.inl rfl) rfl rfl) ed_int h3 (fun _ _ => rfl)) ad_nil rfl) rfl) allD2 ⟨_, _, rfl, (by rw [sizeLine_eq]; exact Nat.le_of_ble_eq_true rfl), _, _, _, rfl, h4, rfl⟩ rfl rfl rfl rfl) h7 ⟨rfl, (wkK (wkK (wkK (wkF wk0)))), _, rfl⟩ ?_ (fun ρ_ w_ => GX.pn0_wk w_ rfl rfl) rfl (fun _ => rfl)
      · rintro d7 l6 s_ h
        try dsimp only at h
        refine ⟨_, (tg_name 3 nd rfl (.inl rfl) (.inl rfl)), ?_⟩
        refine sds_eq (ρ1 := ⟨1, [some (.d (rowV (He.ga K "Row") a0)), some (.d a1), some (.loc 0), some (.d d7)], [some (.lst l6)]⟩) ?_ rfl
        replace h := bnd h
        obtain ⟨t8, h6, h⟩ := h
        refine sds_expr (ed_appM (ed_v rfl (.inl rfl) rfl rfl) (ed_v rfl (.inl rfl) rfl rfl) rfl ⟨_, rfl⟩ h6 rfl rfl rfl rfl rfl) ?_ rfl
        refine sds_eq (ρ1 := ⟨1, [some (.d (rowV (He.ga K "Row") a0)), some (.d a1), some (.loc 0), some (.d d7)], [some (.lst t8)]⟩) ?_ rfl
        cases h
        exact sds_nil ⟨(GX.alO_cons GX.alO_nil), ⟨rfl, (wkK (wkK (wkK (wkF wk0)))), _, rfl⟩⟩
    · replace h := bnd h
      obtain ⟨t9, h8, h⟩ := h
      replace h := bnd h
      obtain ⟨t10, h9, h⟩ := h
      refine sx_ifM (td_eqM hu (ed_blt (cb_lenM h8) (ad_cons (ed_v rfl (.inl rfl) rfl rfl) ad_nil rfl) f_len boot_len rfl (by decide) rfl rfl rfl) ed_int h9 rfl) h (fun h => ?_) (fun h => ?_)
      · replace h := bnd h
        obtain ⟨t11, h10, h⟩ := h
        replace h := bnd h
        obtain ⟨t12, h11, h⟩ := h
        replace h := bnd h
        obtain ⟨⟨l13, x14⟩, h12, h⟩ := h
        replace h := bnd h
        obtain ⟨_, h13, h⟩ := h
        replace h := bnd h
        obtain ⟨l15, h15, h⟩ := h
        cases h
        refine GX.sx_forHX (vs := [3]) (fun (l15 : List D) => (⟨1, [some (.d (rowV (He.ga K "Row") a0)), some (.d a1), some (.loc 0), none], [some (.lst l15)]⟩ : DL.Env)) (fun _ => rfl) _ tk (by first | exact PassesOwn.never | exact L2.passes_of rfl) (T.nsi _ (inL_ok h13)) (GX.ge_call xg_falls_by (ad_cons (ed_v rfl (.inl rfl) rfl rfl) (ad_cons (ed_ixM (ed_v rfl (.inl rfl) rfl rfl) ed_int h10 (fun _ _ => rfl)) (ad_cons (ed_ixM (ed_v rfl (.inl rfl) rfl rfl) ed_int h11 (fun _ _ => rfl)) ad_nil rfl) rfl) rfl) allD3 ⟨_, _, rfl, (by rw [sizeLine_eq]; exact Nat.le_of_ble_eq_true rfl), _, _, _, rfl, h12, rfl⟩ rfl rfl rfl rfl) h15 ⟨rfl, (wkK (wkK (wkK (wkF wk0)))), _, rfl⟩ ?_ (fun ρ_ w_ => GX.pn0_wk w_ rfl rfl) rfl (fun _ => rfl)
        · rintro d16 l15 s_ h
          try dsimp only at h
          refine ⟨_, (tg_name 3 nd rfl (.inl rfl) (.inl rfl)), ?_⟩
          refine sds_eq (ρ1 := ⟨1, [some (.d (rowV (He.ga K "Row") a0)), some (.d a1), some (.loc 0), some (.d d16)], [some (.lst l15)]⟩) ?_ rfl
          replace h := bnd h
          obtain ⟨t17, h14, h⟩ := h
          refine sds_expr (ed_appM (ed_v rfl (.inl rfl) rfl rfl) (ed_v rfl (.inl rfl) rfl rfl) rfl ⟨_, rfl⟩ h14 rfl rfl rfl rfl rfl) ?_ rfl
          refine sds_eq (ρ1 := ⟨1, [some (.d (rowV (He.ga K "Row") a0)), some (.d a1), some (.loc 0), some (.d d16)], [some (.lst t17)]⟩) ?_ rfl
          cases h
          exact sds_nil ⟨(GX.alO_cons GX.alO_nil), ⟨rfl, (wkK (wkK (wkK (wkF wk0)))), _, rfl⟩⟩
      · replace h := bnd h
        obtain ⟨t18, h16, h⟩ := h
        replace h := bnd h
        obtain ⟨t19, h17, h⟩ := h
        refine sx_ifM (td_eqM hu (ed_blt (cb_lenM h16) (ad_cons (ed_v rfl (.inl rfl) rfl rfl) ad_nil rfl) f_len boot_len rfl (by decide) rfl rfl rfl) ed_int h17 rfl) h (fun h => ?_) (fun h => ?_)
        · replace h := bnd h
          obtain ⟨t20, h18, h⟩ := h
          replace h := bnd h
          obtain ⟨t21, h19, h⟩ := h
          replace h := bnd h
          obtain ⟨t22, h20, h⟩ := h
          replace h := bnd h
          obtain ⟨⟨l23, x24⟩, h21, h⟩ := h
          replace h := bnd h
          obtain ⟨_, h22, h⟩ := h
          replace h := bnd h
          obtain ⟨l25, h24, h⟩ := h
          cases h
          refine GX.sx_forHX (vs := [3]) (fun (l25 : List D) => (⟨1, [some (.d (rowV (He.ga K "Row") a0)), some (.d a1), some (.loc 0), none], [some (.lst l25)]⟩ : DL.Env)) (fun _ => rfl) _ tk (by first | exact PassesOwn.never | exact L2.passes_of rfl) (T.nsi _ (inL_ok h22)) (GX.ge_call xg_falls_by (ad_cons (ed_v rfl (.inl rfl) rfl rfl) (ad_cons (ed_ixM (ed_v rfl (.inl rfl) rfl rfl) ed_int h18 (fun _ _ => rfl)) (ad_cons (ed_ixM (ed_v rfl (.inl rfl) rfl rfl) ed_int h19 (fun _ _ => rfl)) (ad_cons (ed_ixM (ed_v rfl (.inl rfl) rfl rfl) ed_int h20 (fun _ _ => rfl)) ad_nil rfl) rfl) rfl) rfl) allD4 ⟨_, _, rfl, (by rw [sizeLine_eq]; exact Nat.le_of_ble_eq_true rfl), _, _, _, rfl, h21, rfl⟩ rfl rfl rfl rfl) h24 ⟨rfl, (wkK (wkK (wkK (wkF wk0)))), _, rfl⟩ ?_ (fun ρ_ w_ => GX.pn0_wk w_ rfl rfl) rfl (fun _ => rfl)
          · rintro d26 l25 s_ h
            try dsimp only at h
            refine ⟨_, (tg_name 3 nd rfl (.inl rfl) (.inl rfl)), ?_⟩
            refine sds_eq (ρ1 := ⟨1, [some (.d (rowV (He.ga K "Row") a0)), some (.d a1), some (.loc 0), some (.d d26)], [some (.lst l25)]⟩) ?_ rfl
            replace h := bnd h
            obtain ⟨t27, h23, h⟩ := h
            refine sds_expr (ed_appM (ed_v rfl (.inl rfl) rfl rfl) (ed_v rfl (.inl rfl) rfl rfl) rfl ⟨_, rfl⟩ h23 rfl rfl rfl rfl rfl) ?_ rfl
            refine sds_eq (ρ1 := ⟨1, [some (.d (rowV (He.ga K "Row") a0)), some (.d a1), some (.loc 0), some (.d d26)], [some (.lst t27)]⟩) ?_ rfl
            cases h
            exact sds_nil ⟨(GX.alO_cons GX.alO_nil), ⟨rfl, (wkK (wkK (wkK (wkF wk0)))), _, rfl⟩⟩
        · replace h := bnd h
          obtain ⟨t28, h25, h⟩ := h
          replace h := bnd h
          obtain ⟨t29, h26, h⟩ := h
          replace h := bnd h
          obtain ⟨t30, h27, h⟩ := h
          replace h := bnd h
          obtain ⟨t31, h28, h⟩ := h
          replace h := bnd h
          obtain ⟨⟨l32, x33⟩, h29, h⟩ := h
          replace h := bnd h
          obtain ⟨_, h30, h⟩ := h
          replace h := bnd h
          obtain ⟨l34, h32, h⟩ := h
          cases h
          refine GX.sx_forHX (vs := [3]) (fun (l34 : List D) => (⟨1, [some (.d (rowV (He.ga K "Row") a0)), some (.d a1), some (.loc 0), none], [some (.lst l34)]⟩ : DL.Env)) (fun _ => rfl) _ tk (by first | exact PassesOwn.never | exact L2.passes_of rfl) (T.nsi _ (inL_ok h30)) (GX.ge_call xg_falls_by (ad_cons (ed_v rfl (.inl rfl) rfl rfl) (ad_cons (ed_ixM (ed_v rfl (.inl rfl) rfl rfl) ed_int h25 (fun _ _ => rfl)) (ad_cons (ed_ixM (ed_v rfl (.inl rfl) rfl rfl) ed_int h26 (fun _ _ => rfl)) (ad_cons (ed_ixM (ed_v rfl (.inl rfl) rfl rfl) ed_int h27 (fun _ _ => rfl)) (ad_cons (ed_ixM (ed_v rfl (.inl rfl) rfl rfl) ed_int h28 (fun _ _ => rfl)) ad_nil rfl) rfl) rfl) rfl) rfl) allD5 ⟨_, _, rfl, (by rw [sizeLine_eq]; exact Nat.le_of_ble_eq_true rfl), _, _, _, rfl, h29, rfl⟩ rfl rfl rfl rfl) h32 ⟨rfl, (wkK (wkK (wkK (wkF wk0)))), _, rfl⟩ ?_ (fun ρ_ w_ => GX.pn0_wk w_ rfl rfl) rfl (fun _ => rfl)
          · rintro d35 l34 s_ h
            try dsimp only at h
            refine ⟨_, (tg_name 3 nd rfl (.inl rfl) (.inl rfl)), ?_⟩
            refine sds_eq (ρ1 := ⟨1, [some (.d (rowV (He.ga K "Row") a0)), some (.d a1), some (.loc 0), some (.d d35)], [some (.lst l34)]⟩) ?_ rfl
            replace h := bnd h
            obtain ⟨t36, h31, h⟩ := h
            refine sds_expr (ed_appM (ed_v rfl (.inl rfl) rfl rfl) (ed_v rfl (.inl rfl) rfl rfl) rfl ⟨_, rfl⟩ h31 rfl rfl rfl rfl rfl) ?_ rfl
            refine sds_eq (ρ1 := ⟨1, [some (.d (rowV (He.ga K "Row") a0)), some (.d a1), some (.loc 0), some (.d d35)], [some (.lst t36)]⟩) ?_ rfl
            cases h
            exact sds_nil ⟨(GX.alO_cons GX.alO_nil), ⟨rfl, (wkK (wkK (wkK (wkF wk0)))), _, rfl⟩⟩
end
theorem XG_law_played {P : Program} {w : World} {K : PySem.W.Frag} {mg : Str → Option Value} {base : Heap} {A : Around} {k : Nat} (T : Tx K mg) (hr : Room k A) (h : 11 ≤ k) : XGs P w K mg base A "_law_played" (RX_law_played (He.ga K)) := ⟨_, _, xok_law_played T, hr.mono h, T.g_law_played, kp_of T.d_law_played⟩

/-! su._law_raised -/
noncomputable def m_su_law_raised (xn : XN) : Option D :=
  (inL xcL xn.nm).bind fun _ => (isL kiL xn.nm "InvalidRow").bind fun t1 => (isL kiL xn.nm "AlreadyFallen").bind fun t2 => (isL kiL xn.nm "UnknownStone").bind fun t3 => (isL kiL xn.nm "InvalidSide").bind fun t4 => (isL kiL xn.nm "InvalidNumber").bind fun t5 => (isL kiL xn.nm "OtherRow").bind fun t6 => (dAddX (.lst [(.bl t1), (.bl t2), (.bl t3)]) (.lst [(.bl t4), (.bl t5), (.bl t6)])).bind fun t7 => (dCountD t7 (.bl true)).bind fun t8 => (dNe t8 (.int 1)).bind fun t9 => (cond t9 (some true) ((dB (.bl true)).bind fun t10 => some (!t10))).bind fun t11 => cond t11 (some (.tup [(.str "other")])) ((dIndexD t7 (.bl true)).bind fun t12 => (dIx (.lst [(.str "row"), (.str "fallen"), (.str "stone"), (.str "side"), (.str "number"), (.str "other")]) t12).bind fun t13 => (dLt t12 (.int 2)).bind fun t14 => (cond t14 ((xFld xn "index").bind fun t15 => some (.tup [t13, t15])) (some (.tup [t13]))).bind fun t16 => some t16)
theorem su_in_law_raised {xn : XN} {r : D} (h : m_su_law_raised xn = some r) : xn.nm ∈ xcL := by
  unfold m_su_law_raised at h
  obtain ⟨_, h, _⟩ := bnd h
  exact inL_ok h
section
variable {P : Program} {w : World} {K : PySem.W.Frag} {mg : Str → Option Value} {base : Heap}
theorem TD_law_raised {X : Cx} (T : Tx X.K X.mg) (hg : X.env.kindOf "_law_raised" = some .globalImplicit) : TellD X "_law_raised" "_law_work" (He.ga X.K "_law_raised") (defArgs s_law_raised) (defBody s_law_raised) (defScope s_law_raised) n_law_raised := ⟨hg, T.g_law_raised, T.d_law_raised, (fun _ _ _ _ _ _ us hl => match us, hl with | [_], _ => rfl), sc_law_raised, rfl⟩
theorem TY_law_raised {X : Cx} (T : Tx X.K X.mg) : TryD X "_law_work" "e" "StoneError" 1 (defScope s_law_raised) n_law_raised (.ref (He.ga X.K "StoneError")) := ⟨sc_law_raised.nd, rfl, .inl rfl, rfl, rfl, rfl, T.g_StoneError, rfl, rfl, rfl⟩
set_option maxHeartbeats 4000000 in
theorem su_law_raised {k : Nat} {A : Around} {outer : List PySem.Env} (T : Tx K mg) {xn : XN} {r : D} (h : m_su_law_raised xn = some r) (cdv : Value) (s : Shared) (H : Hp) (ae : Addr) (oe : Obj) (d : Option Addr) (pn : List (Addr × Obj)) (hr : Room (k + 1) (A.deeper (envOfC "_law_raised" (defScope s_law_raised) s.heap.objs.size (He.ga K "_law_raised") cdv))) (hz : Zc (.ref (xn.xv (He.ga K)).cls) d oe) (hv : ∃ vs, oe.data = .fields vs) :
    SDs ((cxOf CX0 P w K mg base n_law_raised "_law_raised" (defScope s_law_raised) (He.ga K "_law_raised") cdv A outer s H E0).nox.suite ae ((ae, oe) :: pn)) (env1 n_law_raised 1 K (.ref (xn.xv (He.ga K)).cls) d (xn.xv (He.ga K)) ae) (tryS (defBody s_law_raised)) (kn1 r) := by
  have nd := sc_law_raised.nd
  have g_InvalidRow := T.g_InvalidRow
  have f_isinstance := T.f_isinstance
  have g_AlreadyFallen := T.g_AlreadyFallen
  have g_UnknownStone := T.g_UnknownStone
  have g_InvalidSide := T.g_InvalidSide
  have g_InvalidNumber := T.g_InvalidNumber
  have g_OtherRow := T.g_OtherRow
  have hu65 := room_u65 hr
  have hu := room_u hr
  have f_ValueError := T.f_ValueError
  unfold m_su_law_raised at h
  obtain ⟨_, hk0, h⟩ := bnd h
  replace hk0 := inL_ok hk0
  refine sds_eq (ρ1 := ⟨0, [none, some (.d (.lam 0 (exP K (.ref (xn.xv (He.ga K)).cls) d (xn.xv (He.ga K)) ae))), none, none, none], []⟩) ?_ rfl
  replace h := bnd h
  obtain ⟨t1, h1, h⟩ := h
  replace h := bnd h
  obtain ⟨t2, h2, h⟩ := h
  replace h := bnd h
  obtain ⟨t3, h3, h⟩ := h
  refine sds_set 2 (ed_lst (ad_cons (ed_blt (cb_isX (x := xn.xv (He.ga K)) (isXB_ok (T.ixs _ hk0)) hz hv (T.kis _ (isL_ok h1))) (ad_cons (ed_v rfl (.inl rfl) rfl rfl) (ad_cons (ed_gref g_InvalidRow rfl (by decide)) ad_nil rfl) rfl) f_isinstance boot_isinstance rfl (by decide) rfl rfl rfl) (ad_cons (ed_blt (cb_isX (x := xn.xv (He.ga K)) (isXB_ok (T.ixs _ hk0)) hz hv (T.kis _ (isL_ok h2))) (ad_cons (ed_v rfl (.inl rfl) rfl rfl) (ad_cons (ed_gref g_AlreadyFallen rfl (by decide)) ad_nil rfl) rfl) f_isinstance boot_isinstance rfl (by decide) rfl rfl rfl) (ad_cons (ed_blt (cb_isX (x := xn.xv (He.ga K)) (isXB_ok (T.ixs _ hk0)) hz hv (T.kis _ (isL_ok h3))) (ad_cons (ed_v rfl (.inl rfl) rfl rfl) (ad_cons (ed_gref g_UnknownStone rfl (by decide)) ad_nil rfl) rfl) f_isinstance boot_isinstance rfl (by decide) rfl rfl rfl) ad_nil rfl) rfl) rfl) allD3 (by rw [sizeLine_eq]; exact Nat.le_of_ble_eq_true rfl)) ?_ nd rfl (.inl rfl) rfl (.inl rfl)
  refine sds_eq (ρ1 := ⟨0, [none, some (.d (.lam 0 (exP K (.ref (xn.xv (He.ga K)).cls) d (xn.xv (He.ga K)) ae))), some (.d (.lst [(.bl t1), (.bl t2), (.bl t3)])), none, none], []⟩) ?_ rfl
  replace h := bnd h
  obtain ⟨t4, h4, h⟩ := h
  replace h := bnd h
  obtain ⟨t5, h5, h⟩ := h
  replace h := bnd h
  obtain ⟨t6, h6, h⟩ := h
  replace h := bnd h
  obtain ⟨t7, h7, h⟩ := h
  refine sds_set 2 (ed_addX (ed_v rfl (.inl rfl) rfl rfl) (ed_lst (ad_cons (ed_blt (cb_isX (x := xn.xv (He.ga K)) (isXB_ok (T.ixs _ hk0)) hz hv (T.kis _ (isL_ok h4))) (ad_cons (ed_v rfl (.inl rfl) rfl rfl) (ad_cons (ed_gref g_InvalidSide rfl (by decide)) ad_nil rfl) rfl) f_isinstance boot_isinstance rfl (by decide) rfl rfl rfl) (ad_cons (ed_blt (cb_isX (x := xn.xv (He.ga K)) (isXB_ok (T.ixs _ hk0)) hz hv (T.kis _ (isL_ok h5))) (ad_cons (ed_v rfl (.inl rfl) rfl rfl) (ad_cons (ed_gref g_InvalidNumber rfl (by decide)) ad_nil rfl) rfl) f_isinstance boot_isinstance rfl (by decide) rfl rfl rfl) (ad_cons (ed_blt (cb_isX (x := xn.xv (He.ga K)) (isXB_ok (T.ixs _ hk0)) hz hv (T.kis _ (isL_ok h6))) (ad_cons (ed_v rfl (.inl rfl) rfl rfl) (ad_cons (ed_gref g_OtherRow rfl (by decide)) ad_nil rfl) rfl) f_isinstance boot_isinstance rfl (by decide) rfl rfl rfl) ad_nil rfl) rfl) rfl) allD3 (by rw [sizeLine_eq]; exact Nat.le_of_ble_eq_true rfl)) h7) ?_ nd rfl (.inl rfl) rfl (.inl rfl)
  refine sds_eq (ρ1 := ⟨0, [none, some (.d (.lam 0 (exP K (.ref (xn.xv (He.ga K)).cls) d (xn.xv (He.ga K)) ae))), some (.d t7), none, none], []⟩) ?_ rfl
  replace h := bnd h
  obtain ⟨t8, h8, h⟩ := h
  replace h := bnd h
  obtain ⟨t9, h9, h⟩ := h
  replace h := bnd h
  obtain ⟨t11, h11, h⟩ := h
  refine sds_ifM (TW.td (tw_orM (td_neM hu (ed_countM hu65 (ed_v rfl (.inl rfl) rfl rfl) ed_bl h8 rfl rfl rfl rfl rfl) ed_int h9 rfl) h11 (fun h => by replace h := bnd h; obtain ⟨t10, h10, h⟩ := h; exact TW.sm h (tw_or1 (td_not (td_valM (ed_blt (cb_isXt (x := xn.xv (He.ga K)) (isXB_ok (T.ixs _ hk0)) hz hv (T.kvs _ hk0)) (ad_cons (ed_v rfl (.inl rfl) rfl rfl) (ad_cons (ed_bty f_ValueError rfl PyProof.Rows.Boot.«ValueError» (by decide) rfl) ad_nil rfl) rfl) f_isinstance boot_isinstance rfl (by decide) rfl rfl rfl) h10 (fun _ => rfl))))))) h (fun h => ?_) (fun h => ?_)
  · cases h
    exact sds_ret (ed_tup (ad_cons ed_str ad_nil rfl) allD1 (by rw [sizeLine_eq]; exact Nat.le_of_ble_eq_true rfl)) rfl
  · refine sds_nil ?_
    replace h := bnd h
    obtain ⟨t12, h12, h⟩ := h
    refine sds_set 3 (ed_indexDM hu65 (ed_v rfl (.inl rfl) rfl rfl) ed_bl h12 rfl rfl rfl rfl rfl) ?_ nd rfl (.inl rfl) rfl (.inl rfl)
    refine sds_eq (ρ1 := ⟨0, [none, some (.d (.lam 0 (exP K (.ref (xn.xv (He.ga K)).cls) d (xn.xv (He.ga K)) ae))), some (.d t7), some (.d t12), none], []⟩) ?_ rfl
    replace h := bnd h
    obtain ⟨t13, h13, h⟩ := h
    refine sds_set 4 (ed_ixM (ed_lst (ad_cons ed_str (ad_cons ed_str (ad_cons ed_str (ad_cons ed_str (ad_cons ed_str (ad_cons ed_str ad_nil rfl) rfl) rfl) rfl) rfl) rfl) allD6 (by rw [sizeLine_eq]; exact Nat.le_of_ble_eq_true rfl)) (ed_v rfl (.inl rfl) rfl rfl) h13 (fun _ _ => rfl)) ?_ nd rfl (.inl rfl) rfl (.inl rfl)
    refine sds_eq (ρ1 := ⟨0, [none, some (.d (.lam 0 (exP K (.ref (xn.xv (He.ga K)).cls) d (xn.xv (He.ga K)) ae))), some (.d t7), some (.d t12), some (.d t13)], []⟩) ?_ rfl
    replace h := bnd h
    obtain ⟨t14, h14, h⟩ := h
    replace h := bnd h
    obtain ⟨t16, h16, h⟩ := h
    cases h
    exact sds_ret (ed_ifM (td_ltM (ed_v rfl (.inl rfl) rfl rfl) ed_int h14) h16 (fun h => by replace h := bnd h; obtain ⟨t15, h15, h⟩ := h; exact ED.sm (A := none) h (ed_tup (ad_cons (ed_v rfl (.inl rfl) rfl rfl) (ad_cons (ed_xf (x := xn.xv (He.ga K)) (isXf (T.ixs _ hk0)) (T.nofs _ hk0 _ (by decide +kernel)) hz hv (ed_v rfl (.inl rfl) rfl rfl) h15) ad_nil rfl) rfl) allD2 (by rw [sizeLine_eq]; exact Nat.le_of_ble_eq_true rfl))) (fun h => by exact ED.sm (A := none) h (ed_tup (ad_cons (ed_v rfl (.inl rfl) rfl rfl) ad_nil rfl) allD1 (by rw [sizeLine_eq]; exact Nat.le_of_ble_eq_true rfl)))) rfl
end

/-! law -/
noncomputable def m_law (a0 : D) : Option (D) :=
  (dRange1 (.int 3)).bind fun t1 => (forF (τ := D) (fun d3 => fun (l2 : List D) => (m_law_stones l2 (.int 10)).bind fun z => (match z with | (t4, o5) => (m_law_row t4).bind fun t6 => (dLen t4).bind fun t7 => (dRange1 t7).bind fun t8 => (dFew t8).bind fun t9 => (m_law_taken o5 (.int 4)).bind fun z => (match z with | (t10, o11) => (dAddX (.int 1) t10).bind fun t12 => (dRange1 t12).bind fun t13 => (forS (fun d19 => fun (z : D × D × List D × List D × List D) => (match z with | (s14, s15, l16, l17, l18) => (dLen t4).bind fun t20 => (dAddX t20 (.int 1)).bind fun t21 => (m_law_taken l16 t21).bind fun z => (match z with | (t22, o23) => (m_law_taken o23 (.int 2)).bind fun z => (match z with | (t24, o25) => (dIx (.lst [(.str "left"), (.str "right")]) t24).bind fun t26 => (m_law_taken o25 (.int 12)).bind fun z => (match z with | (t27, o28) => (dEq t27 (.int 0)).bind fun t29 => (cond t29 ((m_law_taken o28 (.int 2)).bind fun z => (match z with | (t32, o33) => (dIx (.lst [(.str "up"), .non]) t32).bind fun t34 => some (t34, o33))) (some (t26, o28)) : Option (D × List D)).bind (fun (z : D × List D) => (match z with | (y30, l31) => (lApp l17 (.tup [t22, y30])).bind fun t35 => (cond s15.isNone ((dLen t4).bind fun t36 => (dEq t22 t36).bind fun t37 => some t37) (some false)).bind fun t38 => cond t38 (some (s14, (.tup [(.str "stone")]), l31, t35, l18)) ((cond s15.isNone ((dNinF y30 (.tup [(.str "left"), (.str "right")])).bind fun t39 => some t39) (some false)).bind fun t40 => cond t40 (some (s14, (.tup [(.str "side")]), l31, t35, l18)) ((cond s15.isNone ((dNinX t22 s14).bind fun t41 => some t41) (some false)).bind fun t42 => cond t42 (some (s14, (.tup [(.str "fallen"), d19]), l31, t35, l18)) (cond s15.isNone ((m_law_fallen t4 s14 t22 y30).bind fun t43 => (dSortK t43).bind fun t44 => (lApp l18 t44).bind fun t45 => (dSeq s14).bind fun t46 => (lcG (fun d47 => (lIx t45 (.int (-1))).bind fun t48 => (dNinX d47 t48).bind fun t49 => cond t49 (some (some d47)) (some none)) t46).bind fun t50 => some ((.lst t50), s15, l31, t35, t45)) (some (s14, s15, l31, t35, l18)))))))))))) t13 ((.lst t9), .non, o11, [], [])).bind (fun (z : D × D × List D × List D × List D) => (match z with | (s51, s52, l53, l54, l55) => ((tellM ((x_law_played t6 (.lst l54) []).bind fun z => (match z with | (x_, o56) => some (x_, (o56 : List D))) : Option (XN × List D)) m_su_law_raised ((m_law_played t6 (.lst l54) []).bind fun z => (match z with | (t59, o60) => some (.non, o60))) : Option (D × List D))).bind fun z => (match z with | (t61, o62) => (dNe t61 s52).bind fun t63 => (cond t63 (some true) ((m_law_alike 6 (.lst o62) (.lst l55)).bind fun t64 => (dB t64).bind fun t65 => (dB (.bl t65)).bind fun t66 => some (!t66))).bind fun t67 => cond t67 (some (.rt (.bl false))) (some (.nx l53)))))))) t1 ([a0, (.int 0), (.int 0), (.int 0)])).bind fun z => (match z with | .nx l68 => (m_Row_init (.tup [(.tup [(.int 0), (.int 3)]), (.tup [(.int 3), (.int 2)]), (.tup [(.int 5), (.int 1)])])).bind fun t69 => (GX.gList (m_falls_by t69 (.tup [(.tup [(.int 1), (.str "left")]), (.tup [(.int 0), (.str "right")])]))).bind fun t70 => (dNe t70 (.lst [(.lst [(.int 1)]), (.lst [(.int 0)])])).bind fun t71 => cond t71 (some (.bl false)) ((m_law_row (.lst [(.tup [(.int 0), (.int 5)]), (.tup [(.int 3), (.int 1)])])).bind fun t72 => (GX.gList (m_falls_by t72 (.tup []))).bind fun t73 => (dEq t73 (.lst [])).bind fun t74 => some (.bl t74)) | .rt t => some t | .bk _ => none)
def R_law (G : Str → Addr) (TA : Str → Addr) : FSpec := fun xs os r os' => ∃ (a0 : D) , xs = [.d a0] ∧ os = [.tb (TA "law") (lamQ "law")] ∧ os' = [.tb (TA "law") (lamQ "law")] ∧ ∃ t, r = t ∧ m_law a0 = some t
section
variable {P : Program} {w : World} {K : PySem.W.Frag} {mg : Str → Option Value} {base : Heap}
set_option maxHeartbeats 4000000 in
theorem ok_law (T : Tx K mg) (TBA : AllTB base mg K) {fd : FuncData} (F : FunD K "law" "law" (defArgs s_law) (defBody s_law) (defScope s_law) [] [] (He.ga K "law") fd) : FnOk P w K mg base CX0 14 (He.ga K "law") fd ["_law_script"] (spF K (R_law (He.ga K) (fun f => tabA K (He.ga K f)))) := by
  have nd := sc_law.nd
  refine fn_DLok F sc_law ?_ ?_
  · rintro xs os r os' ⟨a0, rfl, rfl, rfl, t, rfl, _⟩
    exact ⟨rfl, rfl, by intro o ho; simp at ho; subst ho; exact trivial⟩
  · rintro A outer s_ H E hr xs os r os' ⟨a0, rfl, rfl, rfl, t, rfl, h⟩ _
    have TB := TBA "law" (by decide)
    have f_range := T.f_range
    have cg_law_stones := CG_law_stones (P := P) (w := w) (base := base) T hr (by decide)
    have cg_law_row := CG_law_row (P := P) (w := w) (base := base) T hr (by decide)
    have f_len := T.f_len
    have f_list := T.f_list
    have cg_law_taken := CG_law_taken (P := P) (w := w) (base := base) T hr (by decide)
    have hu := room_u hr
    have cg_law_fallen := CG_law_fallen (P := P) (w := w) (base := base) T hr (by decide)
    have f_sorted := T.f_sorted
    have cg_law_alike := CG_law_alike (P := P) (w := w) (base := base) T hr (by decide)
    have cg_falls_by := CG_falls_by (P := P) (w := w) (base := base) T hr (by decide)
    have mk_Row_init := MK_Row_init (P := P) (w := w) (base := base) T hr (by decide)
    unfold m_law at h
    refine sds_eq (ρ1 := ⟨1, [some (.d a0), none, none, none, none, none, none, none, none, none, none, none, none, none], [some (.tb (tabA K (He.ga K "law")) (lamQ "law"))]⟩) ?_ rfl
    refine sds_set 1 (ed_lstO (ad_cons (ed_v rfl (.inl rfl) rfl rfl) (ad_cons ed_int (ad_cons ed_int (ad_cons ed_int ad_nil rfl) rfl) rfl) rfl) allD4 (by rw [sizeLine_eq]; exact Nat.le_of_ble_eq_true rfl)) ?_ nd rfl (.inl rfl) rfl (.inl rfl)
    refine sds_eq (ρ1 := ⟨1, [some (.d a0), some (.loc 1), none, none, none, none, none, none, none, none, none, none, none, none], [some (.tb (tabA K (He.ga K "law")) (lamQ "law")), some (.lst [a0, (.int 0), (.int 0), (.int 0)])]⟩) ?_ rfl
    replace h := bnd h
    obtain ⟨t1, h1, h⟩ := h
    replace h := bnd h
    obtain ⟨fl75, h44, h⟩ := h
    refine sds_forCF (vs := [2]) (fun (l2 : List D) => (⟨1, [some (.d a0), some (.loc 1), none, none, none, none, none, none, none, none, none, none, none, none], [some (.tb (tabA K (He.ga K "law")) (lamQ "law")), some (.lst l2)]⟩ : DL.Env)) (fun _ => rfl) (fun (t : D) d ow => d = t ∧ ow.take 1 = [some (.tb (tabA K (He.ga K "law")) (lamQ "law"))]) _ (it_range1M ed_int h1 rfl f_range rfl) h44 ⟨rfl, (wkK (wkK (wkF (wkF (wkF (wkF (wkF (wkF (wkF (wkF (wkF (wkF (wkF (wkF wk0)))))))))))))), _, rfl⟩ ?_ ?_ ?_ PassesOwn.never rfl (fun _ => rfl)
    · rintro d3 l2 fl_ h
      try dsimp only at h
      refine ⟨_, (tg_name 2 nd rfl (.inl rfl) (.inl rfl)), ?_⟩
      refine sds_eq (ρ1 := ⟨1, [some (.d a0), some (.loc 1), some (.d d3), none, none, none, none, none, none, none, none, none, none, none], [some (.tb (tabA K (He.ga K "law")) (lamQ "law")), some (.lst l2)]⟩) ?_ rfl
      replace h := bnd h
      obtain ⟨⟨t4, o5⟩, h2, h⟩ := h
      refine sds_set 3 (ed_callL (ns := [1]) cg_law_stones (ad_cons (ed_v rfl (.inl rfl) rfl rfl) (ad_cons ed_int ad_nil rfl) rfl) (.cons (.loc rfl) (.cons (.d _) .nil)) (Lend.one rfl trivial) ⟨_, _, _, rfl, rfl, rfl, _, rfl, h2⟩ rfl rfl rfl rfl rfl) ?_ nd rfl (.inl rfl) rfl (.inl rfl)
      refine sds_eq (ρ1 := ⟨1, [some (.d a0), some (.loc 1), some (.d d3), some (.d t4), none, none, none, none, none, none, none, none, none, none], [some (.tb (tabA K (He.ga K "law")) (lamQ "law")), some (.lst o5)]⟩) ?_ rfl
      replace h := bnd h
      obtain ⟨t6, h3, h⟩ := h
      replace h := bnd h
      obtain ⟨t7, h4, h⟩ := h
      replace h := bnd h
      obtain ⟨t8, h5, h⟩ := h
      replace h := bnd h
      obtain ⟨t9, h6, h⟩ := h
      refine sds_unT (vs := [4, 5, 6]) rfl (ad_cons (ed_call cg_law_row (ad_cons (ed_v rfl (.inl rfl) rfl rfl) ad_nil rfl) allD1 ⟨_, rfl, rfl, rfl, _, rfl, h3⟩ rfl rfl rfl rfl) (ad_cons (ed_listRg1 rfl (ed_blt (cb_lenM h4) (ad_cons (ed_v rfl (.inl rfl) rfl rfl) ad_nil rfl) f_len boot_len rfl (by decide) rfl rfl rfl) h5 h6 rfl f_list rfl f_range rfl rfl) (ad_cons (ed_lstO ad_nil AllD.nil (by rw [sizeLine_eq]; exact Nat.le_of_ble_eq_true rfl)) ad_nil rfl) rfl) rfl) (by rw [sizeLine_eq]; exact Nat.le_of_ble_eq_true rfl) (gds_cons (gd_name 4 nd rfl (by walk_at "loc") (by walk_at "loc")) (gds_cons (gd_name 5 nd rfl (.inl rfl) (.inl rfl)) (gds_cons (gd_name 6 nd rfl (by walk_at "loc") (by walk_at "loc")) gds_nil rfl) rfl) rfl) ?_ rfl rfl rfl rfl rfl
      refine sds_eq (ρ1 := ⟨1, [some (.d a0), some (.loc 1), some (.d d3), some (.d t4), some (.d (rowV (He.ga K "Row") t6)), some (.d (.lst t9)), some (.loc 2), none, none, none, none, none, none, none], [some (.tb (tabA K (He.ga K "law")) (lamQ "law")), some (.lst o5), some (.lst [])]⟩) ?_ rfl
      refine sds_unT (vs := [7, 8]) rfl (ad_cons ed_non (ad_cons (ed_lstO ad_nil AllD.nil (by rw [sizeLine_eq]; exact Nat.le_of_ble_eq_true rfl)) ad_nil rfl) rfl) (by rw [sizeLine_eq]; exact Nat.le_of_ble_eq_true rfl) (gds_cons (gd_name 7 nd rfl (.inl rfl) (.inl rfl)) (gds_cons (gd_name 8 nd rfl (by walk_at "loc") (by walk_at "loc")) gds_nil rfl) rfl) ?_ rfl rfl rfl rfl rfl
      refine sds_eq (ρ1 := ⟨1, [some (.d a0), some (.loc 1), some (.d d3), some (.d t4), some (.d (rowV (He.ga K "Row") t6)), some (.d (.lst t9)), some (.loc 2), some (.d .non), some (.loc 3), none, none, none, none, none], [some (.tb (tabA K (He.ga K "law")) (lamQ "law")), some (.lst o5), some (.lst []), some (.lst [])]⟩) ?_ rfl
      replace h := bnd h
      obtain ⟨⟨t10, o11⟩, h7, h⟩ := h
      replace h := bnd h
      obtain ⟨t12, h8, h⟩ := h
      replace h := bnd h
      obtain ⟨t13, h9, h⟩ := h
      replace h := bnd h
      obtain ⟨⟨s51, s52, l53, l54, l55⟩, h35, h⟩ := h
      refine sds_forC (vs := [9]) (fun (z : D × D × List D × List D × List D) => (match z with | (s14, s15, l16, l17, l18) => (⟨1, [some (.d a0), some (.loc 1), some (.d d3), some (.d t4), some (.d (rowV (He.ga K "Row") t6)), some (.d s14), some (.loc 2), some (.d s15), some (.loc 3), none, none, none, none, none], [some (.tb (tabA K (He.ga K "law")) (lamQ "law")), some (.lst l16), some (.lst l17), some (.lst l18)]⟩ : DL.Env))) (fun _ => rfl) _ (it_range1M (ed_addX ed_int (ed_callL (ns := [1]) cg_law_taken (ad_cons (ed_v rfl (.inl rfl) rfl rfl) (ad_cons ed_int ad_nil rfl) rfl) (.cons (.loc rfl) (.cons (.d _) .nil)) (Lend.one rfl trivial) ⟨_, _, _, rfl, rfl, rfl, _, rfl, h7⟩ rfl rfl rfl rfl rfl) h8) h9 rfl f_range rfl) h35 ⟨rfl, (wkK (wkK (wkK (wkK (wkK (wkK (wkK (wkK (wkK (wkF (wkF (wkF (wkF (wkF wk0)))))))))))))), _, rfl⟩ ?_ ?_ PassesOwn.never rfl (fun _ => rfl)
      · rintro d19 ⟨s14, s15, l16, l17, l18⟩ s_ h
        try dsimp only at h
        refine ⟨_, (tg_name 9 nd rfl (.inl rfl) (.inl rfl)), ?_⟩
        refine sds_eq (ρ1 := ⟨1, [some (.d a0), some (.loc 1), some (.d d3), some (.d t4), some (.d (rowV (He.ga K "Row") t6)), some (.d s14), some (.loc 2), some (.d s15), some (.loc 3), some (.d d19), none, none, none, none], [some (.tb (tabA K (He.ga K "law")) (lamQ "law")), some (.lst l16), some (.lst l17), some (.lst l18)]⟩) ?_ rfl
        replace h := bnd h
        obtain ⟨t20, h10, h⟩ := h
        replace h := bnd h
        obtain ⟨t21, h11, h⟩ := h
        replace h := bnd h
        obtain ⟨⟨t22, o23⟩, h12, h⟩ := h
        replace h := bnd h
        obtain ⟨⟨t24, o25⟩, h13, h⟩ := h
        replace h := bnd h
        obtain ⟨t26, h14, h⟩ := h
        refine sds_par 10 11 (ad_cons (ed_callL (ns := [1]) cg_law_taken (ad_cons (ed_v rfl (.inl rfl) rfl rfl) (ad_cons (ed_addX (ed_blt (cb_lenM h10) (ad_cons (ed_v rfl (.inl rfl) rfl rfl) ad_nil rfl) f_len boot_len rfl (by decide) rfl rfl rfl) ed_int h11) ad_nil rfl) rfl) (.cons (.loc rfl) (.cons (.d _) .nil)) (Lend.one rfl trivial) ⟨_, _, _, rfl, rfl, rfl, _, rfl, h12⟩ rfl rfl rfl rfl rfl) (ad_cons (ed_ixM (ed_lst (ad_cons ed_str (ad_cons ed_str ad_nil rfl) rfl) allD2 (by rw [sizeLine_eq]; exact Nat.le_of_ble_eq_true rfl)) (ed_callL (ns := [1]) cg_law_taken (ad_cons (ed_v rfl (.inl rfl) rfl rfl) (ad_cons ed_int ad_nil rfl) rfl) (.cons (.loc rfl) (.cons (.d _) .nil)) (Lend.one rfl trivial) ⟨_, _, _, rfl, rfl, rfl, _, rfl, h13⟩ rfl rfl rfl rfl rfl) h14 (fun _ _ => rfl)) ad_nil rfl) rfl) ?_ rfl nd rfl rfl (by decide) rfl rfl rfl rfl
        refine sds_eq (ρ1 := ⟨1, [some (.d a0), some (.loc 1), some (.d d3), some (.d t4), some (.d (rowV (He.ga K "Row") t6)), some (.d s14), some (.loc 2), some (.d s15), some (.loc 3), some (.d d19), some (.d t22), some (.d t26), none, none], [some (.tb (tabA K (He.ga K "law")) (lamQ "law")), some (.lst o25), some (.lst l17), some (.lst l18)]⟩) ?_ rfl
        replace h := bnd h
        obtain ⟨⟨t27, o28⟩, h15, h⟩ := h
        replace h := bnd h
        obtain ⟨t29, h16, h⟩ := h
        replace h := bnd h
        obtain ⟨⟨y30, l31⟩, h19, h⟩ := h
        refine sds_ifC (fun (z : D × List D) => (match z with | (y30, l31) => (⟨1, [some (.d a0), some (.loc 1), some (.d d3), some (.d t4), some (.d (rowV (He.ga K "Row") t6)), some (.d s14), some (.loc 2), some (.d s15), some (.loc 3), some (.d d19), some (.d t22), some (.d y30), none, none], [some (.tb (tabA K (He.ga K "law")) (lamQ "law")), some (.lst l31), some (.lst l17), some (.lst l18)]⟩ : DL.Env))) rfl (td_eqM hu (ed_callL (ns := [1]) cg_law_taken (ad_cons (ed_v rfl (.inl rfl) rfl rfl) (ad_cons ed_int ad_nil rfl) rfl) (.cons (.loc rfl) (.cons (.d _) .nil)) (Lend.one rfl trivial) ⟨_, _, _, rfl, rfl, rfl, _, rfl, h15⟩ rfl rfl rfl rfl rfl) ed_int h16 rfl) h19 (fun h => ?_) (fun h => ?_) ?_
        · replace h := bnd h
          obtain ⟨⟨t32, o33⟩, h17, h⟩ := h
          replace h := bnd h
          obtain ⟨t34, h18, h⟩ := h
          refine sds_set 11 (ed_ixM (ed_lst (ad_cons ed_str (ad_cons ed_non ad_nil rfl) rfl) allD2 (by rw [sizeLine_eq]; exact Nat.le_of_ble_eq_true rfl)) (ed_callL (ns := [1]) cg_law_taken (ad_cons (ed_v rfl (.inl rfl) rfl rfl) (ad_cons ed_int ad_nil rfl) rfl) (.cons (.loc rfl) (.cons (.d _) .nil)) (Lend.one rfl trivial) ⟨_, _, _, rfl, rfl, rfl, _, rfl, h17⟩ rfl rfl rfl rfl rfl) h18 (fun _ _ => rfl)) ?_ nd rfl (.inl rfl) rfl (.inl rfl)
          refine sds_eq (ρ1 := ⟨1, [some (.d a0), some (.loc 1), some (.d d3), some (.d t4), some (.d (rowV (He.ga K "Row") t6)), some (.d s14), some (.loc 2), some (.d s15), some (.loc 3), some (.d d19), some (.d t22), some (.d t34), none, none], [some (.tb (tabA K (He.ga K "law")) (lamQ "law")), some (.lst o33), some (.lst l17), some (.lst l18)]⟩) ?_ rfl
          cases h
          exact sds_nil ⟨rfl, (wkK (wkK (wkK (wkK (wkK (wkK (wkK (wkK (wkK (wkK (wkK (wkK (wkF (wkF wk0)))))))))))))), _, rfl⟩
        · cases h
          exact sds_nil ⟨rfl, (wkK (wkK (wkK (wkK (wkK (wkK (wkK (wkK (wkK (wkK (wkK (wkK (wkF (wkF wk0)))))))))))))), _, rfl⟩
        · refine sds_eq (ρ1 := ⟨1, [some (.d a0), some (.loc 1), some (.d d3), some (.d t4), some (.d (rowV (He.ga K "Row") t6)), some (.d s14), some (.loc 2), some (.d s15), some (.loc 3), some (.d d19), some (.d t22), some (.d y30), none, none], [some (.tb (tabA K (He.ga K "law")) (lamQ "law")), some (.lst l31), some (.lst l17), some (.lst l18)]⟩) ?_ rfl
          replace h := bnd h
          obtain ⟨t35, h20, h⟩ := h
          refine sds_expr (ed_appM (ed_v rfl (by walk_at "vis") rfl rfl) (ed_tup (ad_cons (ed_v rfl (.inl rfl) rfl rfl) (ad_cons (ed_v rfl (.inl rfl) rfl rfl) ad_nil rfl) rfl) allD2 (by rw [sizeLine_eq]; exact Nat.le_of_ble_eq_true rfl)) rfl ⟨_, rfl⟩ h20 rfl rfl rfl rfl rfl) ?_ rfl
          refine sds_eq (ρ1 := ⟨1, [some (.d a0), some (.loc 1), some (.d d3), some (.d t4), some (.d (rowV (He.ga K "Row") t6)), some (.d s14), some (.loc 2), some (.d s15), some (.loc 3), some (.d d19), some (.d t22), some (.d y30), none, none], [some (.tb (tabA K (He.ga K "law")) (lamQ "law")), some (.lst l31), some (.lst t35), some (.lst l18)]⟩) ?_ rfl
          replace h := bnd h
          obtain ⟨t38, h23, h⟩ := h
          refine sds_ifM (TW.td (tw_andM (td_isNM (ed_v rfl (.inl rfl) rfl rfl)) h23 (fun h => by replace h := bnd h; obtain ⟨t36, h21, h⟩ := h; replace h := bnd h; obtain ⟨t37, h22, h⟩ := h; exact TW.sm h (tw_and1 (td_eqM hu (ed_v rfl (.inl rfl) rfl rfl) (ed_blt (cb_lenM h21) (ad_cons (ed_v rfl (.inl rfl) rfl rfl) ad_nil rfl) f_len boot_len rfl (by decide) rfl rfl rfl) h22 rfl))))) h (fun h => ?_) (fun h => ?_)
          · refine sds_set 7 (ed_tup (ad_cons ed_str ad_nil rfl) allD1 (by rw [sizeLine_eq]; exact Nat.le_of_ble_eq_true rfl)) ?_ nd rfl (.inl rfl) rfl (.inl rfl)
            refine sds_eq (ρ1 := ⟨1, [some (.d a0), some (.loc 1), some (.d d3), some (.d t4), some (.d (rowV (He.ga K "Row") t6)), some (.d s14), some (.loc 2), some (.d (.tup [(.str "stone")])), some (.loc 3), some (.d d19), some (.d t22), some (.d y30), none, none], [some (.tb (tabA K (He.ga K "law")) (lamQ "law")), some (.lst l31), some (.lst t35), some (.lst l18)]⟩) ?_ rfl
            refine sds_nil ?_
            cases h
            exact sds_nil ⟨rfl, (wkK (wkK (wkK (wkK (wkK (wkK (wkK (wkK (wkK (wkF (wkF (wkF (wkF (wkF wk0)))))))))))))), _, rfl⟩
          · replace h := bnd h
            obtain ⟨t40, h25, h⟩ := h
            refine sds_ifM (TW.td (tw_andM (td_isNM (ed_v rfl (.inl rfl) rfl rfl)) h25 (fun h => by replace h := bnd h; obtain ⟨t39, h24, h⟩ := h; exact TW.sm h (tw_and1 (td_ninF (ed_v rfl (.inl rfl) rfl rfl) (ed_tup (ad_cons ed_str (ad_cons ed_str ad_nil rfl) rfl) allD2 (by rw [sizeLine_eq]; exact Nat.le_of_ble_eq_true rfl)) h24 rfl))))) h (fun h => ?_) (fun h => ?_)
            · refine sds_set 7 (ed_tup (ad_cons ed_str ad_nil rfl) allD1 (by rw [sizeLine_eq]; exact Nat.le_of_ble_eq_true rfl)) ?_ nd rfl (.inl rfl) rfl (.inl rfl)
              refine sds_eq (ρ1 := ⟨1, [some (.d a0), some (.loc 1), some (.d d3), some (.d t4), some (.d (rowV (He.ga K "Row") t6)), some (.d s14), some (.loc 2), some (.d (.tup [(.str "side")])), some (.loc 3), some (.d d19), some (.d t22), some (.d y30), none, none], [some (.tb (tabA K (He.ga K "law")) (lamQ "law")), some (.lst l31), some (.lst t35), some (.lst l18)]⟩) ?_ rfl
              refine sds_nil ?_
              refine sds_nil ?_
              cases h
              exact sds_nil ⟨rfl, (wkK (wkK (wkK (wkK (wkK (wkK (wkK (wkK (wkK (wkF (wkF (wkF (wkF (wkF wk0)))))))))))))), _, rfl⟩
            · replace h := bnd h
              obtain ⟨t42, h27, h⟩ := h
              refine sds_ifM (TW.td (tw_andM (td_isNM (ed_v rfl (.inl rfl) rfl rfl)) h27 (fun h => by replace h := bnd h; obtain ⟨t41, h26, h⟩ := h; exact TW.sm h (tw_and1 (td_ninX (ed_v rfl (.inl rfl) rfl rfl) (ed_v rfl (.inl rfl) rfl rfl) h26 rfl))))) h (fun h => ?_) (fun h => ?_)
              · refine sds_set 7 (ed_tup (ad_cons ed_str (ad_cons (ed_v rfl (.inl rfl) rfl rfl) ad_nil rfl) rfl) allD2 (by rw [sizeLine_eq]; exact Nat.le_of_ble_eq_true rfl)) ?_ nd rfl (.inl rfl) rfl (.inl rfl)
                refine sds_eq (ρ1 := ⟨1, [some (.d a0), some (.loc 1), some (.d d3), some (.d t4), some (.d (rowV (He.ga K "Row") t6)), some (.d s14), some (.loc 2), some (.d (.tup [(.str "fallen"), d19])), some (.loc 3), some (.d d19), some (.d t22), some (.d y30), none, none], [some (.tb (tabA K (He.ga K "law")) (lamQ "law")), some (.lst l31), some (.lst t35), some (.lst l18)]⟩) ?_ rfl
                refine sds_nil ?_
                refine sds_nil ?_
                refine sds_nil ?_
                cases h
                exact sds_nil ⟨rfl, (wkK (wkK (wkK (wkK (wkK (wkK (wkK (wkK (wkK (wkF (wkF (wkF (wkF (wkF wk0)))))))))))))), _, rfl⟩
              · refine sds_ifM (td_isNM (ed_v rfl (.inl rfl) rfl rfl)) h (fun h => ?_) (fun h => ?_)
                · replace h := bnd h
                  obtain ⟨t43, h28, h⟩ := h
                  replace h := bnd h
                  obtain ⟨t44, h29, h⟩ := h
                  replace h := bnd h
                  obtain ⟨t45, h30, h⟩ := h
                  refine sds_expr (ed_appM (ed_v rfl (by walk_at "vis") rfl rfl) (ed_blt (cb_sortK rfl h29) (ad_cons (ed_call cg_law_fallen (ad_cons (ed_v rfl (.inl rfl) rfl rfl) (ad_cons (ed_v rfl (.inl rfl) rfl rfl) (ad_cons (ed_v rfl (.inl rfl) rfl rfl) (ad_cons (ed_v rfl (.inl rfl) rfl rfl) ad_nil rfl) rfl) rfl) rfl) allD4 ⟨_, _, _, _, rfl, rfl, rfl, _, rfl, h28⟩ rfl rfl rfl rfl) ad_nil rfl) f_sorted boot_sorted rfl (by decide) rfl rfl rfl) rfl ⟨_, rfl⟩ h30 rfl rfl rfl rfl rfl) ?_ rfl
                  refine sds_eq (ρ1 := ⟨1, [some (.d a0), some (.loc 1), some (.d d3), some (.d t4), some (.d (rowV (He.ga K "Row") t6)), some (.d s14), some (.loc 2), some (.d s15), some (.loc 3), some (.d d19), some (.d t22), some (.d y30), none, none], [some (.tb (tabA K (He.ga K "law")) (lamQ "law")), some (.lst l31), some (.lst t35), some (.lst t45)]⟩) ?_ rfl
                  replace h := bnd h
                  obtain ⟨t46, h31, h⟩ := h
                  replace h := bnd h
                  obtain ⟨t50, h34, h⟩ := h
                  refine sds_lcC 5 (own := [("_law_k", 13)]) (it_seqM (ed_v rfl (.inl rfl) rfl rfl) h31) h34 (fun d47 o h => by replace h := bnd h; obtain ⟨t48, h32, h⟩ := h; replace h := bnd h; obtain ⟨t49, h33, h⟩ := h; exact lcPif (tg_blk 13 nd rfl rfl) (fun _ _ _ _ _ => (td_ninX (ed_v rfl (by walk_at "vis") rfl rfl) (ed_ixOM (ed_v rfl (by walk_at "vis") rfl rfl) (ed_neg ed_int) rfl h32 (fun _ _ => rfl)) h33 rfl)) h (fun h => by exact ⟨_, h, fun _ _ _ _ _ => (ed_v rfl (by walk_at "vis") rfl rfl)⟩)) ?_ (by decide) (blkOk_by rfl) nd rfl rfl rfl rfl (fun _ => rfl)
                  refine sds_eq (ρ1 := ⟨1, [some (.d a0), some (.loc 1), some (.d d3), some (.d t4), some (.d (rowV (He.ga K "Row") t6)), some (.d (.lst t50)), some (.loc 2), some (.d s15), some (.loc 3), some (.d d19), some (.d t22), some (.d y30), none, none], [some (.tb (tabA K (He.ga K "law")) (lamQ "law")), some (.lst l31), some (.lst t35), some (.lst t45)]⟩) ?_ rfl
                  refine sds_nil ?_
                  refine sds_nil ?_
                  refine sds_nil ?_
                  refine sds_nil ?_
                  cases h
                  exact sds_nil ⟨rfl, (wkK (wkK (wkK (wkK (wkK (wkK (wkK (wkK (wkK (wkF (wkF (wkF (wkF (wkF wk0)))))))))))))), _, rfl⟩
                · refine sds_nil ?_
                  refine sds_nil ?_
                  refine sds_nil ?_
                  refine sds_nil ?_
                  cases h
                  exact sds_nil ⟨rfl, (wkK (wkK (wkK (wkK (wkK (wkK (wkK (wkK (wkK (wkF (wkF (wkF (wkF (wkF wk0)))))))))))))), _, rfl⟩
      · try dsimp only at h
        refine sds_eq (ρ1 := ⟨1, [some (.d a0), some (.loc 1), some (.d d3), some (.d t4), some (.d (rowV (He.ga K "Row") t6)), some (.d s51), some (.loc 2), some (.d s52), some (.loc 3), none, none, none, none, none], [some (.tb (tabA K (He.ga K "law")) (lamQ "law")), some (.lst l53), some (.lst l54), some (.lst l55)]⟩) ?_ rfl
        refine sds_set 12 (ed_lstO ad_nil AllD.nil (by rw [sizeLine_eq]; exact Nat.le_of_ble_eq_true rfl)) ?_ nd rfl (by walk_at "loc") rfl (by walk_at "loc")
        refine sds_eq (ρ1 := ⟨1, [some (.d a0), some (.loc 1), some (.d d3), some (.d t4), some (.d (rowV (He.ga K "Row") t6)), some (.d s51), some (.loc 2), some (.d s52), some (.loc 3), none, none, none, some (.loc 4), none], [some (.tb (tabA K (He.ga K "law")) (lamQ "law")), some (.lst l53), some (.lst l54), some (.lst l55), some (.lst [])]⟩) ?_ rfl
        refine sds_fzL 2 rfl (Nat.le_of_ble_eq_true rfl) rfl ?_
        refine sds_eq (ρ1 := ⟨1, [some (.d a0), some (.loc 1), some (.d d3), some (.d t4), some (.d (rowV (He.ga K "Row") t6)), some (.d s51), some (.d (.lst l54)), some (.d s52), some (.loc 3), none, none, none, some (.loc 4), none], [some (.tb (tabA K (He.ga K "law")) (lamQ "law")), some (.lst l53), none, some (.lst l55), some (.lst [])]⟩) ?_ rfl
        refine sds_fzL 3 rfl (Nat.le_of_ble_eq_true rfl) rfl ?_
        refine sds_eq (ρ1 := ⟨1, [some (.d a0), some (.loc 1), some (.d d3), some (.d t4), some (.d (rowV (He.ga K "Row") t6)), some (.d s51), some (.d (.lst l54)), some (.d s52), some (.d (.lst l55)), none, none, none, some (.loc 4), none], [some (.tb (tabA K (He.ga K "law")) (lamQ "law")), some (.lst l53), none, none, some (.lst [])]⟩) ?_ rfl
        replace h := bnd h
        obtain ⟨⟨t61, o62⟩, h38, h⟩ := h
        replace h := bnd h
        obtain ⟨t63, h39, h⟩ := h
        replace h := bnd h
        obtain ⟨t67, h43, h⟩ := h
        refine sds_ifM (TW.td (tw_orM1 (ρ1 := ⟨1, [some (.d a0), some (.loc 1), some (.d d3), some (.d t4), some (.d (rowV (He.ga K "Row") t6)), some (.d s51), some (.d (.lst l54)), some (.d s52), some (.d (.lst l55)), none, none, none, some (.loc 4), none], [some (.tb (tabA K (He.ga K "law")) (lamQ "law")), some (.lst l53), none, none, some (.lst o62)]⟩) (TD.env (td_neM hu (show ED _ (⟨1, [some (.d a0), some (.loc 1), some (.d d3), some (.d t4), some (.d (rowV (He.ga K "Row") t6)), some (.d s51), some (.d (.lst l54)), some (.d s52), some (.d (.lst l55)), none, none, none, some (.loc 4), none], [some (.tb (tabA K (He.ga K "law")) (lamQ "law")), some (.lst l53), none, none, some (.lst [])]⟩) _ (.d t61) (⟨1, [some (.d a0), some (.loc 1), some (.d d3), some (.d t4), some (.d (rowV (He.ga K "Row") t6)), some (.d s51), some (.d (.lst l54)), some (.d s52), some (.d (.lst l55)), none, none, none, some (.loc 4), none], [some (.tb (tabA K (He.ga K "law")) (lamQ "law")), some (.lst l53), none, none, some (.lst o62)]⟩) from by
                                                            rcases tellM_or h38 with ⟨xn, hx, hs⟩ | hm
                                                            · replace h := hx
                                                              obtain ⟨⟨x_, o56⟩, hxx, h2_⟩ := bnd h
                                                              (try dsimp only at h2_)
                                                              obtain ⟨e1_, ex_⟩ := Prod.mk.inj (Option.some.inj h2_)
                                                              replace e1_ := e1_.symm
                                                              subst e1_
                                                              subst ex_
                                                              exact ED.to (raised_X (k := 11) (xx := xn.xv (He.ga K)) (TD_law_raised T rfl) (TY_law_raised T) (hr.mono (by decide)) (ed_lam0 (i := 3) (n := 0) rfl TB rfl (fun ok => LamS3.has (lamS3_by rfl) ok) rfl) (lamS3_by rfl) (.none fun _ _ _ _ _ _ => rfl) (T.ems _ (su_in_law_raised hs)) (fun E_ A_ o_ s_ H_ f_ c_ hr => by
                                                                have cg_law_played := CG_law_played (P := P) (w := w) (base := base) T hr (by decide)
                                                                have xg_law_played := XG_law_played (P := P) (w := w) (base := base) T hr (by decide)
                                                                replace h := hxx
                                                                exact EX.to (ex_callL (ns := [4]) lam_lets xg_law_played (ad_cons (ed_v rfl (by walk_at "vis") rfl rfl) (ad_cons (ed_v rfl (by walk_at "vis") rfl rfl) (ad_cons (ed_v rfl (by walk_at "vis") rfl rfl) ad_nil rfl) rfl) rfl) (.cons (.d _) (.cons (.d _) (.cons (.loc rfl) .nil))) (Lend.one rfl trivial) ⟨_, _, _, _, rfl, rfl, rfl, _, rfl, h⟩ rfl rfl rfl rfl rfl) rfl) (su_law_raised T hs)) rfl rfl
                                                            · replace h := hm
                                                              replace h := bnd h
                                                              obtain ⟨⟨t59, o60⟩, h37, h⟩ := h
                                                              cases h
                                                              exact ED.to (raised_N (k := 11) (TD_law_raised T rfl) (TY_law_raised T) (hr.mono (by decide)) (ed_lam0 (i := 3) (n := 0) rfl TB rfl (fun ok => LamS3.has (lamS3_by rfl) ok) rfl) (lamS3_by rfl) (.none fun _ _ _ _ _ _ => rfl) (fun E_ A_ o_ s_ H_ f_ c_ hr =>
                                                                have cg_law_played := CG_law_played (P := P) (w := w) (base := base) T hr (by decide)
                                                                (ed_callL (ns := [4]) cg_law_played (ad_cons (ed_v rfl (by walk_at "vis") rfl rfl) (ad_cons (ed_v rfl (by walk_at "vis") rfl rfl) (ad_cons (ed_v rfl (by walk_at "vis") rfl rfl) ad_nil rfl) rfl) rfl) (.cons (.d _) (.cons (.d _) (.cons (.loc rfl) .nil))) (Lend.one rfl trivial) ⟨_, _, _, _, rfl, rfl, rfl, _, rfl, h37⟩ rfl rfl rfl rfl rfl))) rfl rfl) (ed_v rfl (.inl rfl) rfl rfl) h39 rfl) rfl) h43 (fun h => by replace h := bnd h; obtain ⟨t64, h40, h⟩ := h; replace h := bnd h; obtain ⟨t65, h41, h⟩ := h; replace h := bnd h; obtain ⟨t66, h42, h⟩ := h; exact TW.sm h (tw_or1 (td_not (td_valM (ed_lookL (n := 4) rfl (ed_valM (ed_call cg_law_alike (ad_cons (ed_v rfl (by walk_at "vis") rfl rfl) (ad_cons (ed_v rfl (by walk_at "vis") rfl rfl) ad_nil rfl) rfl) allD2 ⟨_, _, rfl, rfl, rfl, _, rfl, h40⟩ rfl rfl rfl rfl) h41) rfl (fun _ z => nomatch z)) h42 (fun _ => rfl))))))) h (fun h => ?_) (fun h => ?_)
        · cases h
          exact sds_ret ed_bl ⟨_, rfl, ⟨rfl, rfl⟩⟩
        · refine sds_nil ?_
          cases h
          exact sds_nil ⟨_, rfl, ⟨rfl, (wkK (wkK (wkF (wkF (wkF (wkF (wkF (wkF (wkF (wkF (wkF (wkF (wkF (wkF wk0)))))))))))))), _, rfl⟩⟩
    · rintro l68 rfl
      try dsimp only at h
      refine sds_eq (ρ1 := ⟨1, [some (.d a0), some (.loc 1), none, none, none, none, none, none, none, none, none, none, none, none], [some (.tb (tabA K (He.ga K "law")) (lamQ "law")), some (.lst l68)]⟩) ?_ rfl
      replace h := bnd h
      obtain ⟨t69, h45, h⟩ := h
      replace h := bnd h
      obtain ⟨t70, h46, h⟩ := h
      replace h := bnd h
      obtain ⟨t71, h47, h⟩ := h
      refine sds_ifM (td_neM hu (GX.ed_listGM h46 (fun l_ h_ => (GX.ge_call cg_falls_by (ad_cons (ed_makeR mk_Row_init (ad_cons (ed_tup (ad_cons ed_int (ad_cons ed_int ad_nil rfl) rfl) allD2 (by rw [sizeLine_eq]; exact Nat.le_of_ble_eq_true rfl)) (ad_cons (ed_tup (ad_cons ed_int (ad_cons ed_int ad_nil rfl) rfl) allD2 (by rw [sizeLine_eq]; exact Nat.le_of_ble_eq_true rfl)) (ad_cons (ed_tup (ad_cons ed_int (ad_cons ed_int ad_nil rfl) rfl) allD2 (by rw [sizeLine_eq]; exact Nat.le_of_ble_eq_true rfl)) ad_nil rfl) rfl) rfl) allD3 (by rw [sizeLine_eq]; exact Nat.le_of_ble_eq_true rfl) h45 rfl rfl rfl rfl) (ad_cons (ed_tup (ad_cons ed_int (ad_cons ed_str ad_nil rfl) rfl) allD2 (by rw [sizeLine_eq]; exact Nat.le_of_ble_eq_true rfl)) (ad_cons (ed_tup (ad_cons ed_int (ad_cons ed_str ad_nil rfl) rfl) allD2 (by rw [sizeLine_eq]; exact Nat.le_of_ble_eq_true rfl)) ad_nil rfl) rfl) rfl) allD3 ⟨_, _, rfl, (by rw [sizeLine_eq]; exact Nat.le_of_ble_eq_true rfl), _, _, _, rfl, h_, rfl⟩ rfl rfl rfl rfl)) rfl rfl f_list boot_list) (ed_lst (ad_cons (ed_lst (ad_cons ed_int ad_nil rfl) allD1 (by rw [sizeLine_eq]; exact Nat.le_of_ble_eq_true rfl)) (ad_cons (ed_lst (ad_cons ed_int ad_nil rfl) allD1 (by rw [sizeLine_eq]; exact Nat.le_of_ble_eq_true rfl)) ad_nil rfl) rfl) allD2 (by rw [sizeLine_eq]; exact Nat.le_of_ble_eq_true rfl)) h47 rfl) h (fun h => ?_) (fun h => ?_)
      · cases h
        exact sds_ret ed_bl ⟨rfl, rfl⟩
      · refine sds_nil ?_
        replace h := bnd h
        obtain ⟨t72, h48, h⟩ := h
        replace h := bnd h
        obtain ⟨t73, h49, h⟩ := h
        replace h := bnd h
        obtain ⟨t74, h50, h⟩ := h
        cases h
        exact sds_ret (ed_eqM hu (GX.ed_listGM h49 (fun l_ h_ => (GX.ge_call cg_falls_by (ad_cons (ed_call cg_law_row (ad_cons (ed_lst (ad_cons (ed_tup (ad_cons ed_int (ad_cons ed_int ad_nil rfl) rfl) allD2 (by rw [sizeLine_eq]; exact Nat.le_of_ble_eq_true rfl)) (ad_cons (ed_tup (ad_cons ed_int (ad_cons ed_int ad_nil rfl) rfl) allD2 (by rw [sizeLine_eq]; exact Nat.le_of_ble_eq_true rfl)) ad_nil rfl) rfl) allD2 (by rw [sizeLine_eq]; exact Nat.le_of_ble_eq_true rfl)) ad_nil rfl) allD1 ⟨_, rfl, rfl, rfl, _, rfl, h48⟩ rfl rfl rfl rfl) ad_nil rfl) allD1 ⟨_, _, rfl, (by rw [sizeLine_eq]; exact Nat.le_of_ble_eq_true rfl), _, _, _, rfl, h_, rfl⟩ rfl rfl rfl rfl)) rfl rfl f_list boot_list) (ed_lst ad_nil AllD.nil (by rw [sizeLine_eq]; exact Nat.le_of_ble_eq_true rfl)) h50 rfl) ⟨rfl, rfl⟩
    · rintro t d_ ow_ rfl hrt
      try dsimp only at h
      cases h
      exact ⟨hrt.1, hrt.2⟩
end
/-! ### stones, rows, runs (plain) -/
abbrev Stone := Int × Int
def stD (s : Stone) : D := .tup [.int s.1, .int s.2]
def okSt (least : Int) : List Stone → Prop
  | [] => True
  | s :: r => least ≤ s.1 ∧ s.1 ≤ 1000000000 ∧ 1 ≤ s.2 ∧ s.2 ≤ 1000000000 ∧ okSt (s.1 + 1) r
def Valid (l : List Stone) : Prop := l.length ≤ 40 ∧ okSt 0 l
theorem atI_last' {l : List Stone} (h : 0 < l.length) : atI (l.map stD) (-1) = some (stD (l.getD (l.length - 1) (0, 0))) := by
  unfold atI ixN
  have e : ((-1 : Int) + ((l.map stD).length : Int)).toNat = l.length - 1 := by rw [List.length_map]; omega
  rw [if_neg (by decide), if_pos (by rw [List.length_map]; omega), e]
  have hlt : l.length - 1 < l.length := by omega
  simp [hlt]
theorem okSt_iff : ∀ {l : List Stone} {a : Int}, okSt a l ↔ l.Pairwise (fun s t => s.1 < t.1) ∧ ∀ s ∈ l, a ≤ s.1 ∧ s.1 ≤ 1000000000 ∧ 1 ≤ s.2 ∧ s.2 ≤ 1000000000
  | [], a => by simp [okSt]
  | s :: r, a => by
    have ih := okSt_iff (l := r) (a := s.1 + 1)
    simp only [okSt, ih, List.pairwise_cons, List.mem_cons, forall_eq_or_imp]
    constructor
    · rintro ⟨h1, h2, h3, h4, h5, h6⟩
      refine ⟨⟨fun t ht => by have := (h6 t ht).1; omega, h5⟩, ⟨h1, h2, h3, h4⟩, fun t ht => ?_⟩
      have := h6 t ht; omega
    · rintro ⟨⟨h1, h2⟩, ⟨h3, h4, h5, h6⟩, h7⟩
      refine ⟨h3, h4, h5, h6, h2, fun t ht => ?_⟩
      have := h1 t ht; have := h7 t ht; omega
theorem okSt_sub {l l' : List Stone} {a : Int} (h : okSt a l) (hs : l'.Sublist l) : okSt a l' := by
  rw [okSt_iff] at h ⊢
  exact ⟨h.1.sublist hs, fun s hs' => h.2 s (hs.subset hs')⟩
theorem Valid.sub {l l' : List Stone} (h : Valid l) (hs : l'.Sublist l) : Valid l' := ⟨Nat.le_trans hs.length_le h.1, okSt_sub h.2 hs⟩
def totL (l : List Stone) : Int := (l.getD 0 (0, 0)).1 + (l.getD (l.length - 1) (0, 0)).1
def mirS (t : Int) (s : Stone) : Stone := (t - s.1, s.2)
def mirL (l : List Stone) : List Stone := l.reverse.map (mirS (totL l))
theorem mirL_length (l : List Stone) : (mirL l).length = l.length := by simp [mirL]
def goR : List Stone → Int → Nat → Nat
  | [], _, e => e
  | s :: r, reach, e => if s.1 ≤ reach then goR r (max reach (s.1 + s.2)) (e + 1) else e
def rightEnd (l : List Stone) (i : Nat) : Nat := goR (l.drop (i + 1)) ((l.getD i (0, 0)).1 + (l.getD i (0, 0)).2) i
theorem goR_step {l : List Stone} {e : Nat} {reach : Int} (h : e + 1 < l.length) (hp : (l.getD (e + 1) (0, 0)).1 ≤ reach) : goR (l.drop (e + 1)) reach e = goR (l.drop (e + 1 + 1)) (max reach ((l.getD (e + 1) (0, 0)).1 + (l.getD (e + 1) (0, 0)).2)) (e + 1) := by
  rw [List.drop_eq_getElem_cons h]
  have e1 : l.getD (e + 1) (0, 0) = l[e + 1] := by simp [h]
  rw [e1] at hp ⊢
  show (if l[e + 1].1 ≤ reach then _ else _) = _
  rw [if_pos hp]
theorem goR_stop {l : List Stone} {e : Nat} {reach : Int} (h : ¬ (e + 1 < l.length ∧ (l.getD (e + 1) (0, 0)).1 ≤ reach)) : goR (l.drop (e + 1)) reach e = e := by
  by_cases h1 : e + 1 < l.length
  · rw [List.drop_eq_getElem_cons h1]
    have e1 : l.getD (e + 1) (0, 0) = l[e + 1] := by simp [h1]
    rw [e1] at h
    show (if l[e + 1].1 ≤ reach then _ else _) = _
    rw [if_neg (fun z => h ⟨h1, z⟩)]
  · rw [List.drop_eq_nil_of_le (by omega)]; rfl
theorem goR_le : ∀ (r : List Stone) (reach : Int) (e : Nat), goR r reach e ≤ e + r.length
  | [], _, e => by simp [goR]
  | s :: r, reach, e => by
    unfold goR
    split
    · have := goR_le r (max reach (s.1 + s.2)) (e + 1); simp; omega
    · simp
theorem goR_ge : ∀ (r : List Stone) (reach : Int) (e : Nat), e ≤ goR r reach e
  | [], _, e => by simp [goR]
  | s :: r, reach, e => by
    unfold goR
    split
    · have := goR_ge r (max reach (s.1 + s.2)) (e + 1); omega
    · omega
theorem rightEnd_lt {l : List Stone} {i : Nat} (h : i < l.length) : rightEnd l i < l.length := by
  have := goR_le (l.drop (i + 1)) ((l.getD i (0, 0)).1 + (l.getD i (0, 0)).2) i
  unfold rightEnd
  rw [List.length_drop] at this
  omega
theorem rightEnd_ge {l : List Stone} {i : Nat} : i ≤ rightEnd l i := goR_ge _ _ _
def sideS : Bool → Str
  | true => "right"
  | false => "left"
def runOf (l : List Stone) (i : Nat) : Bool → Nat × Nat
  | true => (i, rightEnd l i)
  | false => (l.length - 1 - rightEnd (mirL l) (l.length - 1 - i), i)
abbrev prD (p : Nat × Nat) : D := .tup [.int p.1, .int p.2]
abbrev iN (b : List Nat) : List Int := b.map (fun (n : Nat) => (n : Int))
theorem mem_iN {b : List Nat} {i : Nat} : (i : Int) ∈ iN b ↔ i ∈ b := by
  unfold iN
  rw [List.mem_map]
  constructor
  · rintro ⟨j, hj, e⟩
    have : j = i := by omega
    subst this; exact hj
  · intro h; exact ⟨i, h, rfl⟩
theorem iN_map (b : List Nat) : (iN b).map D.int = b.map (fun n => D.int (n : Nat)) := by rw [List.map_map]; rfl
theorem rngD_nat (a n : Nat) : rngD (a : Int) n = (List.range' a n).map (fun k => D.int (k : Nat)) := by
  unfold rngD
  rw [List.range'_eq_map_range, List.map_map]
  apply List.map_congr_left
  intro k _
  show D.int ((a : Int) + (k : Int)) = D.int ((a + k : Nat) : Int)
  rw [Int.natCast_add]
def plc (l : List Stone) (k : Nat) : Int := (l.getD k (0, 0)).1
def edl (l : List Stone) (k : Nat) : Int := (l.getD k (0, 0)).1 + (l.getD k (0, 0)).2
def rng (p : Nat × Nat) : List Nat := List.range' p.1 (p.2 + 1 - p.1)
theorem rng_mem {p : Nat × Nat} {k : Nat} : k ∈ rng p ↔ p.1 ≤ k ∧ k ≤ p.2 := by
  unfold rng; rw [List.mem_range'_1]; omega
theorem runOf_lt {l : List Stone} {i : Nat} {b : Bool} (h : i < l.length) : (runOf l i b).2 < l.length := by
  cases b with
  | true => exact rightEnd_lt h
  | false => exact h
theorem runOf_le {l : List Stone} {i : Nat} {b : Bool} (h : i < l.length) : (runOf l i b).1 ≤ (runOf l i b).2 := by
  cases b with
  | true => exact rightEnd_ge
  | false =>
    show l.length - 1 - rightEnd (mirL l) (l.length - 1 - i) ≤ i
    have := rightEnd_ge (l := mirL l) (i := l.length - 1 - i)
    omega
def lfl (l : List Stone) (k : Nat) : Int := (l.getD k (0, 0)).1 - (l.getD k (0, 0)).2
theorem goR_char {l : List Stone} : ∀ (m e : Nat) (reach : Int) (j : Nat), l.length - e ≤ m → e ≤ j → j < l.length → (j ≤ goR (l.drop (e + 1)) reach e ↔ ∀ q, e < q → q ≤ j → (plc l q ≤ reach ∨ ∃ k, e < k ∧ k < q ∧ plc l q ≤ edl l k))
  | 0, e, reach, j, hm, h1, h2 => by omega
  | m + 1, e, reach, j, hm, h1, h2 => by
    by_cases hj : j = e
    · subst hj
      constructor
      · intro _ q a b; omega
      · intro _; exact goR_ge _ _ _
    · by_cases hp : plc l (e + 1) ≤ reach
      · rw [goR_step (by omega) hp, goR_char m (e + 1) _ j (by omega) (by omega) h2]
        constructor
        · intro h q a b
          by_cases hq : q = e + 1
          · subst hq; exact .inl hp
          · rcases h q (by omega) b with h3 | ⟨k, h3, h4, h5⟩
            · by_cases h6 : plc l q ≤ reach
              · exact .inl h6
              · refine .inr ⟨e + 1, by omega, by omega, ?_⟩
                have h7 : plc l q ≤ max reach (edl l (e + 1)) := h3
                omega
            · exact .inr ⟨k, by omega, h4, h5⟩
        · intro h q a b
          rcases h q (by omega) b with h3 | ⟨k, h3, h4, h5⟩
          · left
            have : reach ≤ max reach ((l.getD (e + 1) (0, 0)).1 + (l.getD (e + 1) (0, 0)).2) := Int.le_max_left _ _
            omega
          · by_cases hk : k = e + 1
            · subst hk
              left
              have : edl l (e + 1) ≤ max reach ((l.getD (e + 1) (0, 0)).1 + (l.getD (e + 1) (0, 0)).2) := Int.le_max_right _ _
              omega
            · exact .inr ⟨k, by omega, h4, h5⟩
      · rw [goR_stop (fun z => hp z.2)]
        constructor
        · intro h; omega
        · intro h
          rcases h (e + 1) (by omega) (by omega) with h3 | ⟨k, h3, h4, _⟩
          · exact absurd h3 hp
          · omega
theorem rightEnd_char {l : List Stone} {i j : Nat} (h1 : i ≤ j) (h2 : j < l.length) : j ≤ rightEnd l i ↔ ∀ q, i < q → q ≤ j → ∃ k, i ≤ k ∧ k < q ∧ plc l q ≤ edl l k := by
  unfold rightEnd
  rw [goR_char (l.length - i) i _ j (Nat.le_refl _) h1 h2]
  constructor
  · intro h q a b
    rcases h q a b with h3 | ⟨k, h3, h4, h5⟩
    · exact ⟨i, Nat.le_refl _, a, h3⟩
    · exact ⟨k, by omega, h4, h5⟩
  · intro h q a b
    obtain ⟨k, h3, h4, h5⟩ := h q a b
    by_cases hk : k = i
    · subst hk; exact .inl h5
    · exact .inr ⟨k, by omega, h4, h5⟩
theorem mirL_get {l : List Stone} {k : Nat} (h : k < l.length) : (mirL l).getD k (0, 0) = mirS (totL l) (l.getD (l.length - 1 - k) (0, 0)) := by
  unfold mirL
  have h1 : l.length - 1 - k < l.length := by omega
  simp [h, h1]
theorem mir_plc {l : List Stone} {k : Nat} (h : k < l.length) : plc (mirL l) k = totL l - plc l (l.length - 1 - k) := by
  unfold plc; rw [mirL_get h]; rfl
theorem mir_edl {l : List Stone} {k : Nat} (h : k < l.length) : edl (mirL l) k = totL l - lfl l (l.length - 1 - k) := by
  unfold edl lfl; rw [mirL_get h]
  unfold mirS
  simp only
  omega
def bef : Bool → Nat → Nat → Prop
  | true, x, y => x < y
  | false, x, y => y < x
def beq' (b : Bool) (x y : Nat) : Prop := x = y ∨ bef b x y
def rch (l : List Stone) : Bool → Nat → Nat → Prop
  | true, k, q => plc l q ≤ edl l k
  | false, k, q => lfl l k ≤ plc l q
theorem run_char {l : List Stone} {i j : Nat} {b : Bool} (hi : i < l.length) (hj : j < l.length) : j ∈ rng (runOf l i b) ↔ beq' b i j ∧ ∀ q, bef b i q → beq' b q j → ∃ k, beq' b i k ∧ bef b k q ∧ rch l b k q := by
  rw [rng_mem]
  cases b with
  | true =>
    show (i ≤ j ∧ j ≤ rightEnd l i) ↔ (i = j ∨ i < j) ∧ ∀ q, i < q → (q = j ∨ q < j) → ∃ k, (i = k ∨ i < k) ∧ k < q ∧ plc l q ≤ edl l k
    constructor
    · rintro ⟨h1, h2⟩
      refine ⟨by omega, fun q a c => ?_⟩
      obtain ⟨k, h3, h4, h5⟩ := (rightEnd_char h1 hj).mp h2 q a (by omega)
      exact ⟨k, by omega, h4, h5⟩
    · rintro ⟨h1, h2⟩
      have h1' : i ≤ j := by omega
      refine ⟨h1', (rightEnd_char h1' hj).mpr fun q a c => ?_⟩
      obtain ⟨k, h3, h4, h5⟩ := h2 q a (by omega)
      exact ⟨k, by omega, h4, h5⟩
  | false =>
    show (l.length - 1 - rightEnd (mirL l) (l.length - 1 - i) ≤ j ∧ j ≤ i) ↔ (i = j ∨ j < i) ∧ ∀ q, q < i → (q = j ∨ j < q) → ∃ k, (i = k ∨ k < i) ∧ q < k ∧ lfl l k ≤ plc l q
    have hn := mirL_length l
    have hlt := rightEnd_lt (l := mirL l) (i := l.length - 1 - i) (by omega)
    constructor
    · rintro ⟨h1, h2⟩
      refine ⟨by omega, fun q a c => ?_⟩
      obtain ⟨k, h3, h4, h5⟩ := (rightEnd_char (l := mirL l) (i := l.length - 1 - i) (j := l.length - 1 - j) (by omega) (by omega)).mp (by omega) (l.length - 1 - q) (by omega) (by omega)
      rw [mir_plc (by omega), mir_edl (by omega), show l.length - 1 - (l.length - 1 - q) = q by omega] at h5
      exact ⟨l.length - 1 - k, by omega, by omega, by omega⟩
    · rintro ⟨h1, h2⟩
      have h1' : j ≤ i := by omega
      have h3 := (rightEnd_char (l := mirL l) (i := l.length - 1 - i) (j := l.length - 1 - j) (by omega) (by omega)).mpr fun q a c => by
        obtain ⟨k, h3, h4, h5⟩ := h2 (l.length - 1 - q) (by omega) (by omega)
        refine ⟨l.length - 1 - k, by omega, by omega, ?_⟩
        rw [mir_plc (by omega), mir_edl (by omega), show l.length - 1 - (l.length - 1 - k) = k by omega]
        omega
      exact ⟨by omega, h1'⟩
theorem bef_trans {b : Bool} {x y z : Nat} (h : bef b x y) (h' : bef b y z) : bef b x z := by
  cases b
  · exact Nat.lt_trans h' h
  · exact Nat.lt_trans h h'
theorem bef_tri (b : Bool) (x y : Nat) : bef b x y ∨ x = y ∨ bef b y x := by
  cases b
  · show y < x ∨ _ ∨ x < y; omega
  · show x < y ∨ _ ∨ y < x; omega
theorem beq_bef {b : Bool} {x y z : Nat} (h : beq' b x y) (h' : bef b y z) : bef b x z := by
  rcases h with h | h
  · subst h; exact h'
  · exact bef_trans h h'
/-! ### the mirrors' operations at data that are known -/
@[simp] theorem dAddX_ii (i j : Int) : dAddX (.int i) (.int j) = some (.int (i + j)) := rfl
@[simp] theorem dAddI_ii (i j : Int) : dAddI (.int i) (.int j) = some (.int (i + j)) := rfl
@[simp] theorem dSub_ii (i j : Int) : dSub (.int i) (.int j) = some (.int (i - j)) := rfl
@[simp] theorem dLt_ii (i j : Int) : dLt (.int i) (.int j) = some (decide (i < j)) := rfl
@[simp] theorem dLe_ii (i j : Int) : dLe (.int i) (.int j) = some (decide (i ≤ j)) := rfl
@[simp] theorem dGt_ii (i j : Int) : dGt (.int i) (.int j) = some (decide (j < i)) := rfl
@[simp] theorem dGe_ii (i j : Int) : dGe (.int i) (.int j) = some (decide (j ≤ i)) := rfl
@[simp] theorem dMax_ii (i j : Int) : dMax (.int i) (.int j) = some (.int (max i j)) := rfl
@[simp] theorem dMin_ii (i j : Int) : dMin (.int i) (.int j) = some (.int (min i j)) := rfl
@[simp] theorem dInt_i (i : Int) : dInt (.int i) = some (.int i) := rfl
@[simp] theorem dInt_b (b : Bool) : dInt (.bl b) = some (.int (if b then 1 else 0)) := rfl
@[simp] theorem dB_b (b : Bool) : dB (.bl b) = some b := rfl
@[simp] theorem dNeg_i (i : Int) : dNeg (.int i) = some (.int (-i)) := rfl
@[simp] theorem decInt_i (i : Int) : decInt (.int i) = some i := rfl
@[simp] theorem dUn2_t (a b : D) : dUn2 (.tup [a, b]) = some (a, b) := rfl
@[simp] theorem dUn3_t (a b c : D) : dUn3 (.tup [a, b, c]) = some (a, b, c) := rfl
@[simp] theorem dSeq_l (ds : List D) : dSeq (.lst ds) = some ds := rfl
@[simp] theorem dSeq_t (ds : List D) : dSeq (.tup ds) = some ds := rfl
@[simp] theorem seq_l (ds : List D) : (D.lst ds).seq? = some ds := rfl
@[simp] theorem seq_t (ds : List D) : (D.tup ds).seq? = some ds := rfl
/-- a list or a tuple -/
def sq : D → Option (List D)
  | .lst ds => some ds
  | .tup ds => some ds
  | _ => none
theorem sq_seq {u : D} {ds : List D} (h : sq u = some ds) : u.seq? = some ds := by
  cases u <;> simp [sq] at h <;> subst h <;> rfl
theorem dLen_u {u : D} {ds : List D} (h : sq u = some ds) : dLen u = some (.int ds.length) := by unfold dLen; rw [sq_seq h]; rfl
@[simp] theorem dLen_l (ds : List D) : dLen (.lst ds) = some (.int ds.length) := rfl
@[simp] theorem dLen_t (ds : List D) : dLen (.tup ds) = some (.int ds.length) := rfl
@[simp] theorem dRev_l (ds : List D) : dRev (.lst ds) = some (.lst ds.reverse) := rfl
@[simp] theorem dRev_t (ds : List D) : dRev (.tup ds) = some (.tup ds.reverse) := rfl
@[simp] theorem dIx_l (ds : List D) (i : Int) : dIx (.lst ds) (.int i) = atI ds i := rfl
@[simp] theorem dIx_t (ds : List D) (i : Int) : dIx (.tup ds) (.int i) = atI ds i := rfl
@[simp] theorem lIx_i (ds : List D) (i : Int) : lIx ds (.int i) = atI ds i := rfl
theorem dIx_u {u : D} {ds : List D} (h : sq u = some ds) (i : Int) : dIx u (.int i) = atI ds i := by
  cases u <;> simp [sq] at h <;> subst h <;> rfl
theorem atI_get' {ds : List D} {i : Nat} {d : D} (h : ds[i]? = some d) : atI ds (i : Int) = some d := by
  have hlt := (List.getElem?_eq_some_iff.mp h).1
  unfold atI ixN
  rw [if_pos (by omega), if_pos (by omega)]
  simpa using h
@[simp] theorem at0 (a : D) (ds : List D) : atI (a :: ds) 0 = some a := atI_get' (i := 0) rfl
@[simp] theorem at1 (a b : D) (ds : List D) : atI (a :: b :: ds) 1 = some b := atI_get' (i := 1) rfl
@[simp] theorem at2 (a b c : D) (ds : List D) : atI (a :: b :: c :: ds) 2 = some c := atI_get' (i := 2) rfl
@[simp] theorem at3 (a b c d : D) (ds : List D) : atI (a :: b :: c :: d :: ds) 3 = some d := atI_get' (i := 3) rfl
theorem atI_i {l : List Int} {i : Nat} (h : i < l.length) : atI (l.map D.int) (i : Int) = some (.int (l.getD i 0)) := atI_get' (by simp [h])
theorem atI_s {l : List Stone} {i : Nat} (h : i < l.length) : atI (l.map stD) (i : Int) = some (stD (l.getD i (0, 0))) := atI_get' (by simp [h])
@[simp] theorem stD_0 (s : Stone) : dIx (stD s) (.int 0) = some (.int s.1) := by unfold stD; simp
@[simp] theorem stD_1 (s : Stone) : dIx (stD s) (.int 1) = some (.int s.2) := by unfold stD; simp
@[simp] theorem stD_un (s : Stone) : dUn2 (stD s) = some (.int s.1, .int s.2) := rfl
theorem dMod_ii {i j : Int} (h : 0 < j) : dMod (.int i) (.int j) = some (.int (i % j)) := if_pos h
theorem dDiv_ii {i j : Int} (h : 0 < j) (h2 : j < 1073741824) : dDiv (.int i) (.int j) = some (.int (i / j)) := if_pos ⟨h, h2⟩
theorem dMul_r {i j : Int} (h : -(2 ^ 64) < j ∧ j < 2 ^ 64) : dMul (.int i) (.int j) = some (.int (i * j)) := if_pos (.inr h)
theorem dPow_10 {j : Int} (h : 0 ≤ j ∧ j ≤ 1000000) : dPow (.int 10) (.int j) = some (.int (10 ^ j.toNat)) := if_pos ⟨h.1, h.2, by decide⟩
@[simp] theorem pow9 : dPow (.int 10) (.int 9) = some (.int 1000000000) := by rw [dPow_10 (by omega)]; rfl
@[simp] theorem pow18 : dPow (.int 10) (.int 18) = some (.int 1000000000000000000) := by rw [dPow_10 (by omega)]; rfl
theorem dTup_of {ds : List D} (h : ds.length ≤ 1000) : dTup ds = some (.tup ds) := if_pos (by rw [sizeLine_eq]; omega)
theorem lApp_of {ds : List D} {d : D} (h : ds.length ≤ 1000) : lApp ds d = some (ds ++ [d]) := if_pos (by rw [sizeLine_eq]; omega)
theorem dRange1_n {n : Nat} (h : n ≤ 1000000) : dRange1 (.int n) = some ((List.range n).map fun k => D.int (k : Nat)) := by
  unfold dRange1
  dsimp only
  rw [if_pos (by omega)]
  have := rngD_nat 0 n
  simp only [Int.toNat_natCast]
  rw [List.range_eq_range']
  exact congrArg some this
@[simp] theorem dEq_ii (i j : Int) : dEq (.int i) (.int j) = some (decide (i = j)) := by
  unfold dEq
  rw [if_pos (by rfl)]
  rfl
@[simp] theorem dEq_ss (s t : Str) : dEq (.str s) (.str t) = some (decide (s = t)) := by
  unfold dEq
  rw [if_pos (by rfl)]
  rfl
@[simp] theorem dNe_ii (i j : Int) : dNe (.int i) (.int j) = some (!decide (i = j)) := by unfold dNe; simp
open Classical in
theorem dEq_dd {d e : D} (hs : scD d e = false) (h1 : d.ok = true) (h2 : e.ok = true) (h3 : d.dep ≤ 64) (h4 : e.dep ≤ 64) : dEq d e = some (decide (d = e)) := by
  unfold dEq
  rw [if_neg (by rw [hs]; decide), if_pos ⟨h1, h2, h3, h4⟩]
@[simp] theorem isi_int (i : Int) (f : Kd → Bool) : dIsi f (.int i) = some (f .int) := rfl
@[simp] theorem isi_str (i : Str) (f : Kd → Bool) : dIsi f (.str i) = some (f .str) := rfl
@[simp] theorem isi_tup (i : List D) (f : Kd → Bool) : dIsi f (.tup i) = some (f .tup) := rfl
@[simp] theorem isi_lst (i : List D) (f : Kd → Bool) : dIsi f (.lst i) = some (f .lst) := rfl
@[simp] theorem isi_bl (i : Bool) (f : Kd → Bool) : dIsi f (.bl i) = some (f .bl) := rfl
@[simp] theorem isi_non (f : Kd → Bool) : dIsi f .non = some (f .non) := rfl
/-! loops and comprehensions -/
/-- a loop by an invariant over what is left -/
theorem forS_inv {α σ : Type} {f : D → σ → Option σ} {e : α → D} (I : List α → σ → Prop) (h : ∀ x r s, I (x :: r) s → ∃ s', f (e x) s = some s' ∧ I r s') : ∀ (l : List α) (s : σ), I l s → ∃ s', forS f (l.map e) s = some s' ∧ I [] s'
  | [], s, h0 => ⟨s, rfl, h0⟩
  | x :: l, s, h0 => by
    obtain ⟨s1, h1, h2⟩ := h x l s h0
    obtain ⟨s2, h3, h4⟩ := forS_inv I h l s1 h2
    refine ⟨s2, ?_, h4⟩
    show (f (e x) s).bind _ = _
    rw [h1]; exact h3
theorem forF_inv {α σ τ : Type} {f : D → σ → Option (Fl σ τ)} {e : α → D} (I : List α → σ → Prop) (h : ∀ x r s, I (x :: r) s → ∃ s', f (e x) s = some (.nx s') ∧ I r s') : ∀ (l : List α) (s : σ), I l s → ∃ s', forF f (l.map e) s = some (.nx s') ∧ I [] s'
  | [], s, h0 => ⟨s, rfl, h0⟩
  | x :: l, s, h0 => by
    obtain ⟨s1, h1, h2⟩ := h x l s h0
    obtain ⟨s2, h3, h4⟩ := forF_inv I h l s1 h2
    refine ⟨s2, ?_, h4⟩
    show (f (e x) s).bind _ = _
    rw [h1]; exact h3
theorem lcM_map {α : Type} {f : D → Option (Option D)} {e : α → D} (o : α → Option D) : ∀ (l : List α), (∀ x ∈ l, f (e x) = some (o x)) → lcM f (l.map e) = some (l.filterMap o)
  | [], _ => rfl
  | x :: l, h => by
    show (f (e x)).bind _ = _
    rw [h x (by simp)]
    show (lcM f (l.map e)).bind _ = _
    rw [lcM_map o l fun y hy => h y (by simp [hy]), List.filterMap_cons]
    cases o x <;> rfl
theorem lcG_fm {α : Type} {f : D → Option (Option D)} {e : α → D} (o : α → Option D) (l : List α) (hl : l.length ≤ 1000) (h : ∀ x ∈ l, f (e x) = some (o x)) : lcG f (l.map e) = some (l.filterMap o) := by
  unfold lcG
  rw [if_pos (by rw [sizeLine_eq, List.length_map]; omega)]
  exact lcM_map o l h
theorem lcG_map {α : Type} {f : D → Option (Option D)} {e : α → D} (g : α → D) (l : List α) (hl : l.length ≤ 1000) (h : ∀ x ∈ l, f (e x) = some (some (g x))) : lcG f (l.map e) = some (l.map g) := by
  rw [lcG_fm (fun x => some (g x)) l hl h]
  congr 1
  induction l with
  | nil => rfl
  | cons x l ih => simp
theorem lcG_filter {α : Type} {f : D → Option (Option D)} {e : α → D} (p : α → Bool) (l : List α) (hl : l.length ≤ 1000) (h : ∀ x ∈ l, f (e x) = some (if p x = true then some (e x) else none)) : lcG f (l.map e) = some ((l.filter p).map e) := by
  rw [lcG_fm (fun x => if p x = true then some (e x) else none) l hl h]
  congr 1
  clear h hl
  induction l with
  | nil => rfl
  | cons x l ih =>
    rw [List.filterMap_cons, List.filter_cons]
    by_cases q : p x = true
    · simp only [q, if_true, ih, List.map_cons]
    · simp only [q, if_false, ih]; rfl
/-- a while that ends by a measure -/
theorem whileS_inv {σ : Type} {c : σ → Option Bool} {f : σ → Option σ} (I : σ → Prop) (μ : σ → Nat) (h : ∀ s, I s → (c s = some false) ∨ (c s = some true ∧ ∃ s', f s = some s' ∧ I s' ∧ μ s' < μ s)) : ∀ (n : Nat) (s : σ), I s → μ s < n → ∃ s', whileS c f n s = some s' ∧ I s' ∧ c s' = some false
  | 0, s, _, hn => by omega
  | n + 1, s, hi, hn => by
    rcases h s hi with h1 | ⟨h1, s', h2, h3, h4⟩
    · refine ⟨s, ?_, hi, h1⟩
      show (c s).bind _ = _
      rw [h1]; rfl
    · obtain ⟨s2, h5, h6, h7⟩ := whileS_inv I μ h n s' h3 (by omega)
      refine ⟨s2, ?_, h6, h7⟩
      show (c s).bind _ = _
      rw [h1]
      show (f s).bind _ = _
      rw [h2]; exact h5
theorem forS_bind {α σ τ : Type} {f : D → σ → Option σ} {e : α → D} {k : σ → Option τ} {t : τ} {l : List α} {s : σ} (I : List α → σ → Prop) (h0 : I l s) (h : ∀ x r s, I (x :: r) s → ∃ s', f (e x) s = some s' ∧ I r s') (hk : ∀ s, I [] s → k s = some t) : (forS f (l.map e) s).bind k = some t := by
  obtain ⟨s', h1, h2⟩ := forS_inv (f := f) I h l s h0
  rw [h1]; exact hk s' h2
/-! something that holds of what is given -/
def Gv {τ : Type} (x : Option τ) (Q : τ → Prop) : Prop := ∃ t, x = some t ∧ Q t
theorem gv_some {τ : Type} {t : τ} {Q : τ → Prop} (h : Q t) : Gv (some t) Q := ⟨t, rfl, h⟩
theorem gv_bind {α τ : Type} {x : Option α} {a : α} {f : α → Option τ} {Q : τ → Prop} (hx : x = some a) (h : Gv (f a) Q) : Gv (x.bind f) Q := by rw [hx]; exact h
theorem gv_gv {α τ : Type} {x : Option α} {f : α → Option τ} {Q : τ → Prop} {R : α → Prop} (hx : Gv x R) (h : ∀ a, R a → Gv (f a) Q) : Gv (x.bind f) Q := by
  obtain ⟨a, e, r⟩ := hx
  exact gv_bind e (h a r)
theorem gv_cT {τ : Type} {A B : Option τ} {Q : τ → Prop} (h : Gv A Q) : Gv (cond true A B) Q := h
theorem gv_cF {τ : Type} {A B : Option τ} {Q : τ → Prop} (h : Gv B Q) : Gv (cond false A B) Q := h
theorem gv_forS {α σ τ : Type} {f : D → σ → Option σ} {e : α → D} {k : σ → Option τ} {l : List α} {s : σ} {Q : τ → Prop} (I : List α → σ → Prop) (h0 : I l s) (h : ∀ x r s, I (x :: r) s → Gv (f (e x) s) (I r)) (hk : ∀ s, I [] s → Gv (k s) Q) : Gv ((forS f (l.map e) s).bind k) Q := by
  obtain ⟨s', h1, h2⟩ := forS_inv (f := f) I h l s h0
  exact gv_bind h1 (hk s' h2)
theorem gv_forF {α σ τ υ : Type} {f : D → σ → Option (Fl σ υ)} {e : α → D} {k : Fl σ υ → Option τ} {l : List α} {s : σ} {Q : τ → Prop} (I : List α → σ → Prop) (h0 : I l s) (h : ∀ x r s, I (x :: r) s → Gv (f (e x) s) (fun fl => ∃ s', fl = .nx s' ∧ I r s')) (hk : ∀ s, I [] s → Gv (k (.nx s)) Q) : Gv ((forF f (l.map e) s).bind k) Q := by
  obtain ⟨s', h1, h2⟩ := forF_inv (f := f) I (fun x r s hi => by
    obtain ⟨fl, e1, s', e2, e3⟩ := h x r s hi
    subst e2
    exact ⟨s', e1, e3⟩) l s h0
  exact gv_bind h1 (hk s' h2)
theorem gv_whileS {σ τ : Type} {c : σ → Option Bool} {f : σ → Option σ} {k : σ → Option τ} {Q : τ → Prop} {n : Nat} {s : σ} (I : σ → Prop) (μ : σ → Nat) (h0 : I s) (hn : μ s < n) (h : ∀ s, I s → (c s = some false ∧ Gv (k s) Q) ∨ (c s = some true ∧ Gv (f s) (fun s' => I s' ∧ μ s' < μ s))) : Gv ((whileS c f n s).bind k) Q := by
  obtain ⟨s', h1, h2, h3⟩ := whileS_inv (c := c) (f := f) I μ (fun s hs => (h s hs).imp And.left id) n s h0 hn
  rcases h s' h2 with ⟨_, h4⟩ | ⟨h4, _⟩
  · exact gv_bind h1 h4
  · rw [h3] at h4; cases h4
theorem fuel_lt {n : Nat} (h : n < 1000000) : n < fuel := h
/-! lists of indices -/
abbrev nL (b : List Nat) : D := .lst (b.map fun n => D.int (n : Nat))
theorem decInts_n (xs : List Nat) : decInts (xs.map fun n => D.int (n : Nat)) = some (iN xs) := by
  rw [← iN_map]
  generalize iN xs = ys
  induction ys with
  | nil => rfl
  | cons y ys ih =>
    show (decInt (.int y)).bind _ = _
    show (decInts (ys.map D.int)).bind _ = _
    rw [ih]; rfl
theorem dNin_n (k : Nat) (b : List Nat) : dNinX (.int k) (nL b) = some (!decide (k ∈ b)) := by
  unfold dNinX dInX
  simp only [seq_l, Option.bind_some, decInts_n]
  congr 2
  exact decide_eq_decide.mpr mem_iN
/-! ### rows.py: what the mirrors give -/
abbrev bD (l : List Stone) : D := .tup (l.map stD)
@[simp] theorem isint_i (i lo hi : Int) : m_is_integer (.int i) (.int lo) (.int hi) = some (.bl (decide (lo ≤ i) && decide (i ≤ hi))) := by
  unfold m_is_integer
  simp [Kd.isInt, Kd.isBool]
theorem dM2_st (s : Stone) : dM2 (stD s) = some (some (.int s.1, .int s.2)) := rfl
theorem isstone_s (s : Stone) (least : Int) : m_is_stone (stD s) (.int least) = some (.bl (decide (least ≤ s.1 ∧ s.1 ≤ 1000000000 ∧ 1 ≤ s.2 ∧ s.2 ≤ 1000000000))) := by
  unfold m_is_stone
  rw [dM2_st]
  unfold stD
  simp only [Option.bind_some, isi_tup, dB_b, isint_i, Kd.isTup, cond_true]
  by_cases h : least ≤ s.1 ∧ s.1 ≤ 1000000000
  · simp [h.1, h.2]
  · have : (decide (least ≤ s.1) && decide (s.1 ≤ 1000000000)) = false := by
      simp only [Bool.and_eq_false_iff, decide_eq_false_iff_not]; omega
    rw [this]
    simp
    omega
theorem enumD_map {l : List Stone} : dEnum (bD l) = some ((l.zipIdx 0).map fun p => D.tup [.int (p.2 : Nat), stD p.1]) := by
  unfold dEnum
  simp only [seq_t, Option.bind_some]
  rw [enumD_zip]
theorem init_v {l : List Stone} (h : Valid l) : m_Row_init (bD l) = some (bD l) := by
  unfold m_Row_init
  rw [enumD_map]
  simp only [Option.bind_some]
  obtain ⟨h1, h2⟩ := h
  have key := forS_inv (f := fun d3 => fun (s2 : D) => (dUn2 d3).bind fun z => match z with | (x4, x5) => (dEq x4 (.int 40)).bind fun t6 => (cond t6 (some true) ((m_is_stone x5 s2).bind fun t7 => (dB t7).bind fun t8 => some (!t8))).bind fun t9 => cond t9 (none) ((dIx x5 (.int 0)).bind fun t10 => (dAddX t10 (.int 1)).bind fun t11 => some t11))
    (e := fun p : Stone × Nat => D.tup [.int (p.2 : Nat), stD p.1]) (fun r s => ∃ least n, s = .int least ∧ ∃ l' : List Stone, r = l'.zipIdx n ∧ n + l'.length ≤ 40 ∧ okSt least l') (by
      rintro ⟨s, k⟩ r st ⟨least, n, rfl, l', e, hn, hok⟩
      cases l' with
      | nil => cases e
      | cons a l' =>
        rw [List.zipIdx_cons] at e
        cases e
        simp only [List.length_cons] at hn
        obtain ⟨o1, o2, o3, o4, o5⟩ := hok
        refine ⟨.int (s.1 + 1), ?_, s.1 + 1, k + 1, rfl, l', rfl, by omega, o5⟩
        have hk : ¬ ((k : Int) = 40) := by omega
        simp [hk, isstone_s, o1, o2, o3, o4]) (l.zipIdx 0) (.int 0) ⟨0, 0, rfl, l, rfl, by omega, h2⟩
  obtain ⟨s', e1, _⟩ := key
  rw [e1]
  rfl
theorem row_of_v {u : D} {l : List Stone} (hu : sq u = some (l.map stD)) (h : Valid l) : m_row_of u = some (bD l) := by
  unfold m_row_of dSeq
  have := h.1
  rw [sq_seq hu]
  simp only [Option.bind_some]
  rw [dTup_of (by rw [List.length_map]; omega)]
  simp only [Option.bind_some]
  rw [init_v h]
  rfl
@[simp] theorem len_b (l : List Stone) : m_Row_len (bD l) = some (.int l.length) := by
  unfold m_Row_len
  simp
theorem check_b {l : List Stone} {i : Int} (h0 : 0 ≤ i) (h1 : i < l.length) : m_Row_check_stone (bD l) (.int i) = some .non := by
  unfold m_Row_check_stone
  simp
  have e1 : decide (0 ≤ i) = true := by simp [h0]
  have e2 : decide (i ≤ (l.length : Int) - 1) = true := by simp; omega
  rw [e1, e2]; rfl
theorem check_n {l : List Stone} {i : Nat} (h1 : i < l.length) : m_Row_check_stone (bD l) (.int i) = some .non := check_b (by omega) (by omega)
@[simp] theorem side_s (b : Bool) : m_check_side (.str (sideS b)) = some .non := by
  unfold m_check_side
  cases b <;> rfl
theorem mir_u {u : D} {l : List Stone} (hu : sq u = some (l.map stD)) (hl : l.length ≤ 40) : ∃ v, m_mirrored u = some v ∧ sq v = some ((mirL l).map stD) := by
  unfold m_mirrored
  rw [dLen_u hu]
  simp only [Option.bind_some, dEq_ii, List.length_map]
  by_cases h : l = []
  · subst h
    refine ⟨u, rfl, ?_⟩
    rw [hu]; rfl
  · have hp : 0 < l.length := List.length_pos_iff.mpr h
    have e0 : decide ((l.length : Int) = 0) = false := by simp; exact h
    rw [e0, cond_false, dIx_u hu, dIx_u hu]
    have a0 : atI (l.map stD) 0 = some (stD (l.getD 0 (0, 0))) := atI_s (i := 0) hp
    rw [a0, atI_last' hp]
    simp only [Option.bind_some, stD_0, dAddX_ii]
    have er : ∃ v, dRev u = some v ∧ dSeq v = some (l.reverse.map stD) := by
      cases u <;> simp [sq] at hu <;> subst hu
      · exact ⟨_, rfl, by simp⟩
      · exact ⟨_, rfl, by simp⟩
    obtain ⟨v, e1, e2⟩ := er
    rw [e1]
    simp only [Option.bind_some]
    rw [e2]
    simp only [Option.bind_some]
    rw [lcG_map (fun s : Stone => stD (mirS (totL l) s)) l.reverse (by simp; omega) (by
      intro s _
      simp
      rfl)]
    refine ⟨_, rfl, ?_⟩
    simp only [sq]
    unfold mirL
    rw [List.map_map]
    rfl
theorem re_u {u : D} {l : List Stone} {i : Nat} (hu : sq u = some (l.map stD)) (hl : l.length ≤ 40) (hi : i < l.length) : m_right_end u (.int i) = some (.int (rightEnd l i)) := by
  unfold m_right_end
  rw [dIx_u hu, atI_s hi]
  simp only [Option.bind_some, stD_0, stD_1, dAddX_ii]
  obtain ⟨⟨s1, s2⟩, e1, ⟨e, reach, e2, he, hg⟩, e3⟩ := whileS_inv (c := fun (z : D × D) => match z with | (s6, s7) => (dAddX s6 (.int 1)).bind fun t15 => (dLen u).bind fun t16 => (dLt t15 t16).bind fun t17 => (cond t17 ((dAddX s6 (.int 1)).bind fun t18 => (dIx u t18).bind fun t19 => (dIx t19 (.int 0)).bind fun t20 => (dLe t20 s7).bind fun t21 => some t21) (some false)).bind fun t22 => some t22)
    (f := fun (z : D × D) => match z with | (s6, s7) => (dAddI s6 (.int 1)).bind fun t8 => (dIx u t8).bind fun t9 => (dIx t9 (.int 0)).bind fun t10 => (dIx u t8).bind fun t11 => (dIx t11 (.int 1)).bind fun t12 => (dAddX t10 t12).bind fun t13 => (dMax s7 t13).bind fun t14 => some (t8, t14))
    (fun z => ∃ (e : Nat) (reach : Int), z = (.int e, .int reach) ∧ e < l.length ∧ goR (l.drop (e + 1)) reach e = rightEnd l i)
    (fun z => match z with | (.int e, _) => l.length - e.toNat | _ => 0) (by
      rintro _ ⟨e, reach, rfl, he, hg⟩
      simp only [dAddX_ii, dAddI_ii, Option.bind_some, dLen_u hu, dLt_ii, List.length_map]
      by_cases h1 : e + 1 < l.length
      · have q1 : decide ((e : Int) + 1 < (l.length : Int)) = true := by simp; omega
        have q2 : (e : Int) + 1 = ((e + 1 : Nat) : Int) := by omega
        rw [q1, q2, dIx_u hu, atI_s h1]
        simp only [cond_true, Option.bind_some, stD_0, stD_1, dLe_ii, dAddX_ii, dMax_ii]
        by_cases h2 : (l.getD (e + 1) (0, 0)).1 ≤ reach
        · right
          refine ⟨by rw [decide_eq_true h2], _, rfl, ⟨e + 1, _, rfl, h1, by rw [← hg, goR_step h1 h2]⟩, ?_⟩
          show l.length - ((e + 1 : Nat) : Int).toNat < l.length - ((e : Nat) : Int).toNat
          omega
        · left; rw [decide_eq_false h2]
      · left
        have q1 : decide ((e : Int) + 1 < (l.length : Int)) = false := by simp; omega
        rw [q1]
        rfl) fuel (.int i, .int ((l.getD i (0, 0)).1 + (l.getD i (0, 0)).2)) ⟨i, _, rfl, hi, rfl⟩ (by
      show l.length - ((i : Nat) : Int).toNat < fuel
      exact fuel_lt (by omega))
  cases e2
  rw [e1]
  simp only [Option.bind_some]
  have : e = rightEnd l i := by
    rw [← hg, goR_stop]
    rintro ⟨h1, h2⟩
    simp only [dAddX_ii, Option.bind_some, dLen_u hu, dLt_ii, List.length_map] at e3
    have q1 : decide ((e : Int) + 1 < (l.length : Int)) = true := by simp; omega
    have q2 : (e : Int) + 1 = ((e + 1 : Nat) : Int) := by omega
    rw [q1, q2, dIx_u hu, atI_s h1] at e3
    simp only [cond_true, Option.bind_some, stD_0, dLe_ii] at e3
    rw [decide_eq_true h2] at e3
    cases e3
  rw [this]
theorem run_u {u : D} {l : List Stone} {i : Nat} {b : Bool} (hu : sq u = some (l.map stD)) (hl : l.length ≤ 40) (hi : i < l.length) : m_run_of u (.int i) (.str (sideS b)) = some (prD (runOf l i b)) := by
  unfold m_run_of
  simp only [dEq_ss, Option.bind_some]
  cases b with
  | true =>
    rw [show decide (sideS true = ("right" : Str)) = true from rfl, cond_true, re_u hu hl hi]
    rfl
  | false =>
    rw [show decide (sideS false = ("right" : Str)) = false from rfl, cond_false, dLen_u hu]
    obtain ⟨v, e1, e2⟩ := mir_u hu hl
    rw [e1]
    simp only [Option.bind_some, dSub_ii, List.length_map]
    have q1 : (l.length : Int) - 1 - (i : Int) = ((l.length - 1 - i : Nat) : Int) := by omega
    have hn := mirL_length l
    rw [q1, re_u e2 (by omega) (by omega)]
    simp only [Option.bind_some, dSub_ii]
    have h1 := rightEnd_lt (l := mirL l) (i := l.length - 1 - i) (by omega)
    have q2 : (l.length : Int) - 1 - (rightEnd (mirL l) (l.length - 1 - i) : Int) = ((l.length - 1 - rightEnd (mirL l) (l.length - 1 - i) : Nat) : Int) := by omega
    rw [q2]
    rfl
theorem run_b {l : List Stone} {i : Nat} {b : Bool} (hl : l.length ≤ 40) (hi : i < l.length) : m_run_of (bD l) (.int i) (.str (sideS b)) = some (prD (runOf l i b)) := run_u rfl hl hi
theorem add_b {l l' : List Stone} (h : Valid (l ++ l')) : m_Row_add (bD l) (bD l') = some (bD (l ++ l')) := by
  unfold m_Row_add
  have h1 := h.1
  rw [List.length_append] at h1
  have e : dAddX (bD l) (bD l') = some (bD (l ++ l')) := by
    have : dAddX (bD l) (bD l') = some (.tup (l.map stD ++ l'.map stD)) := if_pos (by rw [sizeLine_eq, List.length_map, List.length_map]; omega)
    rw [this, bD, List.map_append]
  rw [e]
  simp only [Option.bind_some]
  rw [row_of_v rfl h]
  rfl
/-! ### the draws -/
def TkOk (st : List D) : Prop := ∃ (sc : List Int) (pos : Nat) (seed rest : Int), st = [.lst (sc.map D.int), .int pos, .int seed, .int rest]
@[simp] theorem put0 (a b c d e : D) : lPut [a, b, c, d] (.int 0) e = some [e, b, c, d] := rfl
@[simp] theorem put1 (a b c d e : D) : lPut [a, b, c, d] (.int 1) e = some [a, e, c, d] := rfl
@[simp] theorem put2 (a b c d e : D) : lPut [a, b, c, d] (.int 2) e = some [a, b, e, d] := rfl
@[simp] theorem put3 (a b c d e : D) : lPut [a, b, c, d] (.int 3) e = some [a, b, c, e] := rfl
theorem tk0 (sc : List Int) : TkOk [.lst (sc.map D.int), .int 0, .int 0, .int 0] := ⟨sc, 0, 0, 0, rfl⟩
theorem taken_ok {st : List D} (h : TkOk st) {m : Int} (h0 : 0 < m) (h1 : m < 1073741824) : ∃ v st', m_law_taken st (.int m) = some (.int v, st') ∧ 0 ≤ v ∧ v < m ∧ TkOk st' := by
  obtain ⟨sc, pos, seed, rest, rfl⟩ := h
  unfold m_law_taken
  simp only [lIx_i, at0, at1, at2, at3, Option.bind_some, dGt_ii, dInt_i, put0, put1, put2, put3, dAddX_ii, dLen_l, dSub_ii, dIx_l, pow18, dGe_ii, dMod_ii h0, dDiv_ii h0 h1, dMod_ii (show (0 : Int) < 2147483647 by decide), dDiv_ii (show (0 : Int) < 7 by decide) (by decide), dMul_r (show -(2 ^ 64) < (48271 : Int) ∧ (48271 : Int) < 2 ^ 64 by decide), List.length_map]
  by_cases hr : 0 < rest
  · rw [decide_eq_true hr, cond_true]
    exact ⟨_, _, rfl, Int.emod_nonneg _ (by omega), Int.emod_lt_of_pos _ h0, sc, pos, seed, _, rfl⟩
  · rw [decide_eq_false hr, cond_false]
    have ep : (pos : Int) + 1 = ((pos + 1 : Nat) : Int) := by omega
    by_cases hp : (sc.length : Int) < (pos : Int) + 1
    · rw [decide_eq_true hp, cond_true]
      exact ⟨_, _, rfl, Int.emod_nonneg _ (by omega), Int.emod_lt_of_pos _ h0, sc, pos + 1, (seed * 48271 + 11) % 2147483647, rest, by rw [ep]⟩
    · rw [decide_eq_false hp, cond_false]
      have e1 : (pos : Int) + 1 - 1 = (pos : Int) := by omega
      rw [e1, atI_i (by omega)]
      simp only [Option.bind_some, dAddX_ii, dInt_i, dMod_ii h0, dDiv_ii h0 h1, dMod_ii (show (0 : Int) < 2147483647 by decide), put2, put3, dGe_ii]
      by_cases hc : (1000000000000000000 : Int) ≤ sc.getD pos 0
      · rw [decide_eq_true hc, cond_true]
        exact ⟨_, _, rfl, Int.emod_nonneg _ (by omega), Int.emod_lt_of_pos _ h0, sc, pos + 1, (seed * 48271 + sc.getD pos 0 + 11) % 2147483647, sc.getD pos 0 / m, by rw [ep]⟩
      · rw [decide_eq_false hc, cond_false]
        exact ⟨_, _, rfl, Int.emod_nonneg _ (by omega), Int.emod_lt_of_pos _ h0, sc, pos + 1, (seed * 48271 + sc.getD pos 0 + 11) % 2147483647, rest, by rw [ep]⟩
theorem taken_n {st : List D} (h : TkOk st) {m : Nat} (h0 : 0 < m) (h1 : m < 1073741824) : ∃ (v : Nat) (st' : List D), m_law_taken st (.int m) = some (.int v, st') ∧ v < m ∧ TkOk st' := by
  obtain ⟨v, st', e, a, b, c⟩ := taken_ok h (m := m) (by omega) (by omega)
  obtain ⟨n, rfl⟩ := Int.eq_ofNat_of_zero_le a
  exact ⟨n, st', e, by omega, c⟩
theorem taken_k {st : List D} (h : TkOk st) (m : Nat) (h0 : 0 < m) (h1 : m < 1073741824) {i : Int} (hi : i = m) : ∃ (v : Nat) (st' : List D), m_law_taken st (.int i) = some (.int v, st') ∧ v < m ∧ TkOk st' := by
  subst hi; exact taken_n h h0 h1
/-- a drawn side -/
theorem side_at {v : Nat} (h : v < 2) : ∃ b, dIx (.lst [.str "left", .str "right"]) (.int v) = some (.str (sideS b)) := by
  obtain rfl | rfl : v = 0 ∨ v = 1 := by omega
  · exact ⟨false, rfl⟩
  · exact ⟨true, rfl⟩
theorem idx4 {v1 : Nat} (h : v1 < 4) : ∃ w : Nat, dIx (.lst [(.int 2), (.int 5), (.int 12), (.int 40)]) (.int v1) = some (.int w) ∧ 0 < w ∧ w ≤ 40 := by
  obtain rfl | rfl | rfl | rfl : v1 = 0 ∨ v1 = 1 ∨ v1 = 2 ∨ v1 = 3 := by omega
  · exact ⟨2, at0 _ _, by omega, by omega⟩
  · exact ⟨5, at1 _ _ _, by omega, by omega⟩
  · exact ⟨12, at2 _ _ _ _, by omega, by omega⟩
  · exact ⟨40, at3 _ _ _ _ _, by omega, by omega⟩
theorem idx3 {v3 : Nat} (h : v3 < 3) : ∃ w : Nat, dIx (.lst [(.int 1), (.int 3), (.int 9)]) (.int v3) = some (.int w) ∧ 0 < w ∧ w ≤ 9 := by
  obtain rfl | rfl | rfl : v3 = 0 ∨ v3 = 1 ∨ v3 = 2 := by omega
  · exact ⟨1, at0 _ _, by omega, by omega⟩
  · exact ⟨3, at1 _ _ _, by omega, by omega⟩
  · exact ⟨9, at2 _ _ _ _, by omega, by omega⟩
theorem stones_gv {st : List D} (h : TkOk st) {most : Nat} (hm : most ≤ 40) : Gv (m_law_stones st (.int most)) (fun t => ∃ (l : List Stone) (st' : List D), t = (.lst (l.map stD), st') ∧ TkOk st' ∧ Valid l ∧ l.length ≤ most ∧ (∀ s ∈ l, s.1 ≤ 2 + 9 * (most : Int) ∧ s.2 ≤ 40)) := by
  unfold m_law_stones
  obtain ⟨p0, o1, e1, b1, k1⟩ := taken_k h 3 (by omega) (by omega) (i := 3) rfl
  refine gv_bind e1 (gv_bind (dAddX_ii _ _) ?_)
  obtain ⟨n, o2, e2, b2, k2⟩ := taken_k k1 (most + 1) (by omega) (by omega) (i := (most : Int) + 1) (by omega)
  refine gv_bind e2 (gv_bind (dRange1_n (by omega)) ?_)
  refine gv_forS (fun r z => ∃ (pl : Int) (l : List Stone) (stt : List D), z = (.int pl, stt, l.map stD) ∧ TkOk stt ∧ l.length + r.length = n ∧ pl ≤ 2 + 9 * (l.length : Int) ∧ 0 ≤ pl ∧ okSt 0 l ∧ (∀ s ∈ l, s.1 < pl ∧ s.2 ≤ 40)) ⟨p0, [], o2, rfl, k2, by simp, by simp; omega, by omega, trivial, by simp⟩ ?_ ?_
  · rintro x r _ ⟨pl, l, stt, rfl, g2, g3, g4, g5, g6, g7⟩
    simp only [List.length_cons] at g3
    obtain ⟨v1, q1, a1, a2, a3⟩ := taken_k g2 4 (by omega) (by omega) (i := 4) rfl
    refine gv_bind a1 ?_
    obtain ⟨w1, a4, a5, a6⟩ := idx4 a2
    refine gv_bind a4 ?_
    obtain ⟨v2, q2, c1, c2, c3⟩ := taken_n a3 (m := w1) a5 (by omega)
    refine gv_bind c1 (gv_bind (dAddX_ii _ _) (gv_bind (lApp_of (by rw [List.length_map]; omega)) (gv_bind (dAddX_ii _ _) ?_)))
    obtain ⟨v3, q3, d1, d2, d3⟩ := taken_k c3 3 (by omega) (by omega) (i := 3) rfl
    refine gv_bind d1 ?_
    obtain ⟨w2, d4, d5, d6⟩ := idx3 d2
    refine gv_bind d4 ?_
    obtain ⟨v4, q4, h1, h2, h3⟩ := taken_n d3 (m := w2) d5 (by omega)
    refine gv_bind h1 (gv_bind (dAddX_ii _ _) (gv_some ?_))
    refine ⟨pl + 1 + v4, l ++ [(pl, 1 + (v2 : Int))], q4, ?_, h3, ?_, ?_, ?_, ?_, ?_⟩
    · rw [List.map_append]; rfl
    · rw [List.length_append, List.length_singleton]; omega
    · rw [List.length_append, List.length_singleton]; omega
    · omega
    · rw [okSt_iff] at g6 ⊢
      refine ⟨List.pairwise_append.mpr ⟨g6.1, by simp, fun a ha b hb => ?_⟩, fun s hs => ?_⟩
      · simp only [List.mem_singleton] at hb; subst hb; exact (g7 a ha).1
      · rcases List.mem_append.mp hs with hs | hs
        · exact g6.2 s hs
        · simp only [List.mem_singleton] at hs
          subst hs
          refine ⟨g5, ?_, ?_, ?_⟩
          · show pl ≤ _; omega
          · show (1 : Int) ≤ 1 + v2; omega
          · show (1 : Int) + v2 ≤ _; omega
    · intro s hs
      rcases List.mem_append.mp hs with hs | hs
      · have := g7 s hs; omega
      · simp only [List.mem_singleton] at hs
        subst hs
        exact ⟨by show pl < _; omega, by show (1 : Int) + v2 ≤ _; omega⟩
  · rintro _ ⟨pl, l, stt, rfl, f3, f4, f5, f6, f7, f8⟩
    simp only [List.length_nil] at f4
    refine gv_some ⟨l, stt, rfl, f3, ⟨by omega, f7⟩, by omega, fun s hs => ?_⟩
    have := f8 s hs
    omega
theorem valid_app {l : List Stone} {s : Stone} {x : List Stone} (h : Valid (l ++ s :: x)) : Valid (l ++ [s]) := h.sub (by simp)
theorem row_ok {l : List Stone} (hv : Valid l) : m_law_row (.lst (l.map stD)) = some (bD l) := by
  unfold m_law_row
  have e0 : m_Row_init (.tup []) = some (.tup []) := init_v (l := []) ⟨by simp, trivial⟩
  rw [e0]
  simp only [Option.bind_some, dSeq_l]
  refine forS_bind (fun r s => ∃ l1, s = bD l1 ∧ l = l1 ++ r) ⟨[], rfl, rfl⟩ ?_ ?_
  · rintro s r _ ⟨l1, rfl, rfl⟩
    have h1 : Valid (l1 ++ [s]) := valid_app hv
    have h2 : Valid [s] := h1.sub (by simp)
    have e1 : m_Row_init (.tup [stD s]) = some (bD [s]) := init_v h2
    simp only [e1, Option.bind_some]
    rw [add_b h1]
    exact ⟨_, rfl, l1 ++ [s], rfl, by simp⟩
  · rintro _ ⟨l1, rfl, rfl⟩
    simp
/-! ### heights: the plain law -/
def ht (l : List Stone) (k : Nat) : Int := (l.getD k (0, 0)).2
theorem edl_ht (l : List Stone) (k : Nat) : edl l k = plc l k + ht l k := rfl
theorem lfl_ht (l : List Stone) (k : Nat) : lfl l k = plc l k - ht l k := rfl
theorem Valid.plc_lt {l : List Stone} (h : Valid l) {p q : Nat} (hpq : p < q) (hq : q < l.length) : plc l p < plc l q := by
  have h1 := (okSt_iff.mp h.2).1
  rw [List.pairwise_iff_getElem] at h1
  have hp : p < l.length := by omega
  have := h1 p q hp hq hpq
  unfold plc
  simpa [hp, hq] using this
/-- places rise -/
def Rise (l : List Stone) : Prop := ∀ p q, p < q → q < l.length → plc l p < plc l q
theorem Rise.le {l : List Stone} (h : Rise l) {p q : Nat} (hpq : p ≤ q) (hq : q < l.length) : plc l p ≤ plc l q := by
  rcases Nat.lt_or_eq_of_le hpq with h1 | h1
  · exact Int.le_of_lt (h p q h1 hq)
  · subst h1; exact Int.le_refl _
theorem Valid.rise {l : List Stone} (h : Valid l) : Rise l := fun _ _ h1 h2 => h.plc_lt h1 h2
theorem re_nest {l : List Stone} {k j : Nat} (h1 : k ≤ j) (h2 : j ≤ rightEnd l k) (hk : k < l.length) : rightEnd l j ≤ rightEnd l k := by
  have hlt := rightEnd_lt hk
  have hj : j < l.length := by omega
  have hj2 := rightEnd_lt hj
  have hge := rightEnd_ge (l := l) (i := j)
  rw [rightEnd_char (by omega) hj2]
  intro q a b
  by_cases hq : q ≤ j
  · exact (rightEnd_char h1 hj).mp h2 q a hq
  · obtain ⟨m, h3, h4, h5⟩ := (rightEnd_char hge hj2).mp (Nat.le_refl _) q (by omega) b
    exact ⟨m, by omega, h4, h5⟩
theorem re_reach {l : List Stone} (hr : Rise l) {m q : Nat} (h1 : m ≤ q) (h2 : q < l.length) (h : plc l q ≤ edl l m) : q ≤ rightEnd l m := by
  rw [rightEnd_char h1 h2]
  intro p a b
  exact ⟨m, Nat.le_refl _, a, Int.le_trans (hr.le b h2) h⟩
/-- the greatest end of the d stones behind k -/
def mx (l : List Stone) (k : Nat) : Nat → Nat
  | 0 => k
  | d + 1 => max (max (mx l k d) (k + d + 1)) (rightEnd l (k + d + 1))
theorem mx_ge {l : List Stone} {k : Nat} : ∀ {d : Nat} {j : Nat}, k < j → j ≤ k + d → j ≤ mx l k d ∧ rightEnd l j ≤ mx l k d
  | 0, j, h1, h2 => by omega
  | d + 1, j, h1, h2 => by
    unfold mx
    by_cases h : j = k + d + 1
    · subst h; omega
    · have := mx_ge (l := l) (d := d) h1 (by omega); omega
/-- what needed_to_right gives -/
def NeedR (l : List Stone) (k : Nat) (v : Int) : Prop := (rightEnd l k = k ∧ v = 1) ∨ ∃ d, 1 ≤ d ∧ k + d ≤ rightEnd l k ∧ mx l k d = rightEnd l k ∧ (∀ d', 1 ≤ d' → d' < d → mx l k d' ≠ rightEnd l k) ∧ v = plc l (k + d) - plc l k
/-- nobody between fells the one that is needed -/
theorem need_none {l : List Stone} (hr : Rise l) {k d : Nat} (hk : k < l.length) (h1 : 1 ≤ d) (h2 : k + d ≤ rightEnd l k) (h3 : mx l k d = rightEnd l k) (h4 : ∀ d', 1 ≤ d' → d' < d → mx l k d' ≠ rightEnd l k) {m : Nat} (hm : k < m) (hm2 : m < k + d) : ¬ (k + d ≤ rightEnd l m) := by
  intro h
  have hlt := rightEnd_lt hk
  have hn := re_nest (l := l) (k := m) (j := k + d) (by omega) h (by omega)
  have hg := mx_ge (l := l) (k := k) (d := d - 1) (j := m) hm (by omega)
  have he : mx l k d = mx l k (d - 1) := by
    obtain ⟨e, rfl⟩ : ∃ e, d = e + 1 := ⟨d - 1, by omega⟩
    show max (max (mx l k e) (k + e + 1)) (rightEnd l (k + e + 1)) = mx l k (e + 1 - 1)
    have e1 : e + 1 - 1 = e := by omega
    rw [e1] at hg ⊢
    have e2 : k + (e + 1) = k + e + 1 := by omega
    rw [e2] at hn h
    omega
  exact h4 (d - 1) (by omega) (by omega) (by rw [← he]; exact h3)
theorem NeedR.ok {l : List Stone} (hr : Rise l) {k : Nat} {v : Int} (hk : k < l.length) (h1 : 1 ≤ ht l k) (h : NeedR l k v) : 1 ≤ v ∧ v ≤ ht l k := by
  rcases h with ⟨_, rfl⟩ | ⟨d, a1, a2, a3, a4, rfl⟩
  · omega
  · have hlt := rightEnd_lt hk
    have := hr k (k + d) (by omega) (by omega)
    refine ⟨by omega, ?_⟩
    obtain ⟨m, b1, b2, b3⟩ := (rightEnd_char (l := l) (i := k) (j := k + d) (by omega) (by omega)).mp a2 (k + d) (by omega) (Nat.le_refl _)
    by_cases hm : m = k
    · subst hm; rw [edl_ht] at b3; omega
    · exact absurd (re_reach hr (by omega) (by omega) b3) (need_none hr hk a1 a2 a3 a4 (by omega) b2)
/-! the other side -/
/-- the stones at some places of a row -/
def pick (l : List Stone) (js : List Nat) : List Stone := js.map fun j => l.getD j (0, 0)
theorem pick_range (l : List Stone) : pick l (List.range l.length) = l := by
  unfold pick
  apply List.ext_getElem
  · simp
  · intro i h1 h2
    simp [h2]
theorem pick_sub {l : List Stone} {js : List Nat} (h : js.Sublist (List.range l.length)) : (pick l js).Sublist l := by
  have := h.map (fun j => l.getD j (0, 0))
  rw [show (List.range l.length).map (fun j => l.getD j (0, 0)) = l from pick_range l] at this
  exact this
/-- the part that a push fells -/
def fall (up : List Nat) (r : Nat × Nat) : List Nat := (up.drop r.1).take (r.2 + 1 - r.1)
theorem index_b {up : List Nat} {k : Nat} (h : k ∈ up) : ∃ j, j < up.length ∧ up.getD j 0 = k ∧ dIndex (nL up) (.int k) = some (.int (j : Nat)) := by
  have h2 : (k : Int) ∈ iN up := mem_iN.mpr h
  have h3 : (iN up).idxOf (k : Int) < (iN up).length := List.idxOf_lt_length_iff.mpr h2
  have h4 : (iN up)[(iN up).idxOf (k : Int)] = (k : Int) := List.getElem_idxOf h3
  refine ⟨(iN up).idxOf (k : Int), by simpa using h3, ?_, ?_⟩
  · have h5 : (iN up).idxOf (k : Int) < up.length := by simpa using h3
    rw [List.getElem_map] at h4
    rw [List.getD_eq_getElem?_getD, List.getElem?_eq_getElem h5]
    show up[(iN up).idxOf (k : Int)] = k
    omega
  · unfold dIndex
    simp only [decInts_n, Option.bind_some]
    rw [if_pos h2]
theorem filter_fall {up : List Nat} (hn : up.Nodup) {r : Nat × Nat} (h : r.1 ≤ r.2) : (up.filter fun i => decide (i ∉ fall up r)) = up.take r.1 ++ up.drop (r.2 + 1) := by
  have e1 : up = up.take r.1 ++ (fall up r ++ up.drop (r.2 + 1)) := by
    unfold fall
    have : up.drop (r.2 + 1) = (up.drop r.1).drop (r.2 + 1 - r.1) := by
      rw [List.drop_drop]
      congr 1
      omega
    rw [this, List.take_append_drop, List.take_append_drop]
  have hn2 := hn
  rw [e1] at hn2
  obtain ⟨n1, n2, n3⟩ := List.nodup_append.mp hn2
  obtain ⟨n4, n5, n6⟩ := List.nodup_append.mp n2
  generalize fall up r = F at *
  generalize up.take r.1 = A at *
  generalize up.drop (r.2 + 1) = C at *
  rw [e1, List.filter_append, List.filter_append]
  have a1 : A.filter (fun i => decide (i ∉ F)) = A := List.filter_eq_self.mpr fun i hi => by
    simp only [decide_eq_true_eq]
    intro hf
    exact n3 i hi i (by simp [hf]) rfl
  have a2 : F.filter (fun i => decide (i ∉ F)) = [] := List.filter_eq_nil_iff.mpr fun i hi => by simp [hi]
  have a3 : C.filter (fun i => decide (i ∉ F)) = C := List.filter_eq_self.mpr fun i hi => by
    simp only [decide_eq_true_eq]
    intro hf
    exact n6 i hf i hi rfl
  rw [a1, a2, a3, List.nil_append]
theorem fall_mem {up : List Nat} {r : Nat × Nat} {j : Nat} (h0 : j < up.length) (h1 : r.1 ≤ j) (h2 : j ≤ r.2) : up.getD j 0 ∈ fall up r := by
  unfold fall
  refine List.mem_iff_getElem?.mpr ⟨j - r.1, ?_⟩
  rw [List.getElem?_take, if_pos (by omega), List.getElem?_drop, show r.1 + (j - r.1) = j by omega]
  simp [h0]
theorem dNe_nn (b : List Nat) : dNe (nL b) (.lst []) = some (!decide (b = [])) := by
  unfold dNe
  have ok : ∀ b : List Nat, okAll (b.map fun n => D.int (n : Nat)) = true := fun b => okAll_of fun d hd => by
    obtain ⟨n, _, rfl⟩ := List.mem_map.mp hd; rfl
  have dp : ∀ b : List Nat, depAll (b.map fun n => D.int (n : Nat)) ≤ 0 := fun b => depAll_le fun d hd => by
    obtain ⟨n, _, rfl⟩ := List.mem_map.mp hd; exact Nat.le_refl _
  rw [dEq_dd (d := nL b) rfl (show (nL b).ok = true from by simp only [D.ok]; exact ok b) rfl (by simp only [D.dep]; have := dp b; omega) (by show (1 : Nat) ≤ 64; omega)]
  simp only [Option.bind_some]
  congr 2
  refine decide_eq_decide.mpr ⟨fun h => ?_, fun h => by rw [h]; rfl⟩
  injection h with h
  exact List.map_eq_nil_iff.mp h
/-- the j-th of a list of different ones -/
theorem ix_uniq {u : List Nat} (hu : u.Nodup) {i j : Nat} (hi : i < u.length) (hj : j < u.length) (h : u.getD i 0 = u.getD j 0) : i = j := by
  rw [List.getD_eq_getElem?_getD, List.getD_eq_getElem?_getD, List.getElem?_eq_getElem hi, List.getElem?_eq_getElem hj] at h
  exact (List.getElem_inj hu).mp h
/-! ### lists that rise -/
theorem up_ext : ∀ {xs ys : List Int}, xs.Pairwise (· < ·) → ys.Pairwise (· < ·) → (∀ a, a ∈ xs ↔ a ∈ ys) → xs = ys
  | [], [], _, _, _ => rfl
  | [], y :: ys, _, _, h => by have := (h y).mpr (by simp); cases this
  | x :: xs, [], _, _, h => by have := (h x).mp (by simp); cases this
  | x :: xs, y :: ys, h1, h2, h => by
    rw [List.pairwise_cons] at h1 h2
    have e : x = y := by
      rcases List.mem_cons.mp ((h x).mp (by simp)) with e | e
      · exact e
      · rcases List.mem_cons.mp ((h y).mpr (by simp)) with f | f
        · exact f.symm
        · have := h1.1 y f; have := h2.1 x e; omega
    subst e
    rw [up_ext h1.2 h2.2 fun a => ?_]
    constructor
    · intro ha
      rcases List.mem_cons.mp ((h a).mp (by simp [ha])) with f | f
      · subst f; have := h1.1 _ ha; omega
      · exact f
    · intro ha
      rcases List.mem_cons.mp ((h a).mpr (by simp [ha])) with f | f
      · subst f; have := h2.1 _ ha; omega
      · exact f
theorem sortI_ext {xs ys : List Int} (hn : xs.Nodup) (hs : ys.Pairwise (· < ·)) (h : ∀ a, a ∈ xs ↔ a ∈ ys) : sortI xs = ys := by
  refine up_ext ?_ hs fun a => by rw [(sortI_perm xs).mem_iff, h]
  have n2 : (sortI xs).Nodup := (sortI_perm xs).nodup_iff.mpr hn
  have s2 := sortI_sorted xs
  exact s2.imp₂ (fun a b h1 h2 => by omega) n2
theorem fallU {up : List Nat} (h : up.Pairwise (· < ·)) (r : Nat × Nat) : (fall up r).Pairwise (· < ·) := by
  unfold fall
  exact (h.sublist (List.drop_sublist _ _)).sublist (List.take_sublist _ _)
theorem fall_len {up : List Nat} {r : Nat × Nat} : (fall up r).length ≤ up.length := by
  unfold fall
  rw [List.length_take, List.length_drop]; omega
/-! a small rule (BT has it too) -/
theorem bto {α β : Type} {a : Option α} {x : α} {f : α → Option β} {r : Option β} (h : a = some x) (h2 : f x = r) : a.bind f = r := by rw [h]; exact h2
theorem mPut_new {m : DM} {i : Int} {d : D} (h : ∀ p ∈ m, p.1 ≠ i) : mPut m i d = m ++ [(i, d)] := by
  induction m with
  | nil => rfl
  | cons p m ih =>
    obtain ⟨k, e⟩ := p
    unfold mPut
    rw [if_neg (h (k, e) (by simp)), ih fun p hp => h p (by simp [hp])]
    rfl
/-- keys that differ -/
def Dif (m : DM) : Prop := m.Pairwise fun p q => p.1 ≠ q.1
theorem mGet_dif {m : DM} (h : Dif m) {i : Int} {d : D} (hd : (i, d) ∈ m) : mGet m i = some d := by
  induction m with
  | nil => simp at hd
  | cons p m ih =>
    obtain ⟨k, e⟩ := p
    obtain ⟨h1, h2⟩ := List.pairwise_cons.mp h
    unfold mGet
    rcases List.mem_cons.mp hd with z | z
    · cases z; rw [if_pos rfl]
    · have := h1 _ z
      rw [if_neg this]
      exact ih h2 z
/-! ### stones that hit each other, tick by tick (plain) -/
def Hit (l : List Stone) : Bool → Nat → Nat → Prop
  | true, x, y => 0 < plc l y - plc l x ∧ plc l y - plc l x ≤ ht l x
  | false, x, y => 0 < plc l x - plc l y ∧ plc l x - plc l y ≤ ht l x
/-- what has fallen so far, what falls in this tick -/
def BF (l : List Stone) (u : List Nat) (i : Nat) (s : Bool) : Nat → (Nat → Prop) × (Nat → Prop)
  | 0 => (fun y => y = i, fun y => y = i)
  | t + 1 => (fun y => (BF l u i s t).1 y ∨ (y ∈ u ∧ ¬ (BF l u i s t).1 y ∧ ∃ x, (BF l u i s t).2 x ∧ Hit l s x y), fun y => y ∈ u ∧ ¬ (BF l u i s t).1 y ∧ ∃ x, (BF l u i s t).2 x ∧ Hit l s x y)
section
variable {l : List Stone} {u : List Nat} {i : Nat} {s : Bool}
theorem bf_s {t y : Nat} : (BF l u i s (t + 1)).1 y ↔ (BF l u i s t).1 y ∨ (BF l u i s (t + 1)).2 y := Iff.rfl
theorem bf_l {t y : Nat} : (BF l u i s (t + 1)).2 y ↔ y ∈ u ∧ ¬ (BF l u i s t).1 y ∧ ∃ x, (BF l u i s t).2 x ∧ Hit l s x y := Iff.rfl
theorem bf_seen {y : Nat} : ∀ {t : Nat}, (BF l u i s t).1 y ↔ ∃ t', t' ≤ t ∧ (BF l u i s t').2 y
  | 0 => ⟨fun h => ⟨0, Nat.le_refl _, h⟩, fun ⟨t', h1, h2⟩ => by
      have : t' = 0 := by omega
      subst this; exact h2⟩
  | t + 1 => by
    rw [bf_s, bf_seen (t := t)]
    constructor
    · rintro (⟨t', h1, h2⟩ | h)
      · exact ⟨t', by omega, h2⟩
      · exact ⟨t + 1, Nat.le_refl _, h⟩
    · rintro ⟨t', h1, h2⟩
      by_cases e : t' = t + 1
      · subst e; exact .inr h2
      · exact .inl ⟨t', by omega, h2⟩
theorem bf_end {t : Nat} (h : ∀ y, ¬ (BF l u i s t).2 y) : ∀ d y, ¬ (BF l u i s (t + d)).2 y
  | 0, y => h y
  | d + 1, y => fun z => by
    obtain ⟨_, _, x, hx, _⟩ := (bf_l (t := t + d)).mp z
    exact bf_end h d x hx
theorem bf_in {t y : Nat} (h : (BF l u i s t).2 y) : y = i ∨ y ∈ u := by
  cases t with
  | zero => exact .inl h
  | succ t => exact .inr h.1
end
theorem nodup_len : ∀ (n : Nat) (xs : List Nat), xs.Nodup → (∀ x ∈ xs, x < n) → xs.length ≤ n
  | 0, xs, _, h => by
    cases xs with
    | nil => exact Nat.le_refl _
    | cons x xs => have := h x (by simp); omega
  | n + 1, xs, hn, h => by
    by_cases q : n ∈ xs
    · have h1 := nodup_len n (xs.erase n) (hn.erase n) (fun x hx => by
        obtain ⟨a, b⟩ := (hn.mem_erase_iff).mp hx
        have := h x b
        omega)
      rw [List.length_erase_of_mem q] at h1
      omega
    · have h1 := nodup_len n xs hn (fun x hx => by
        have := h x hx
        have : x ≠ n := fun z => q (z ▸ hx)
        omega)
      omega
theorem dif_len {m : DM} (h : Dif m) {n : Nat} (hk : ∀ k d, (k, d) ∈ m → ∃ j : Nat, k = (j : Int) ∧ j < n) : m.length ≤ n := by
  have e : (m.map fun p => p.1.toNat).length = m.length := by simp
  rw [← e]
  refine nodup_len n _ ?_ ?_
  · unfold List.Nodup
    rw [List.pairwise_map]
    refine List.Pairwise.imp_of_mem ?_ h
    intro a b ha hb hab
    obtain ⟨j1, e1, _⟩ := hk a.1 a.2 ha
    obtain ⟨j2, e2, _⟩ := hk b.1 b.2 hb
    omega
  · intro x hx
    obtain ⟨p, hp, rfl⟩ := List.mem_map.mp hx
    obtain ⟨j, e1, e2⟩ := hk p.1 p.2 hp
    omega
theorem mGet_some {m : DM} {i : Int} {d : D} (h : mGet m i = some d) : (i, d) ∈ m := by
  induction m with
  | nil => cases h
  | cons p m ih =>
    obtain ⟨k, e⟩ := p
    unfold mGet at h
    split at h
    · rename_i q; subst q; cases h; simp
    · exact List.mem_cons_of_mem _ (ih h)
theorem mGet_no {m : DM} {i : Int} (h : mGet m i = none) (d : D) : (i, d) ∉ m := by
  induction m with
  | nil => simp
  | cons p m ih =>
    obtain ⟨k, e⟩ := p
    unfold mGet at h
    split at h
    · cases h
    · rename_i q
      intro z
      rcases List.mem_cons.mp z with z | z
      · cases z; exact q rfl
      · exact ih h z
/-- the entries of m, and those of fl at c -/
def Ent (m m0 : DM) (fl : List Nat) (c : D) : Prop := ∀ k d, (k, d) ∈ m ↔ (k, d) ∈ m0 ∨ ∃ j ∈ fl, k = ((j : Nat) : Int) ∧ d = c
/-- what _law_fallen gives -/
def FallM (l : List Stone) (u : List Nat) (i : Nat) (s : Bool) (m : DM) : Prop := Dif m ∧ ∀ k d, (k, d) ∈ m ↔ ∃ j t : Nat, k = (j : Int) ∧ d = .int (t : Int) ∧ (BF l u i s t).2 j
theorem dNe_nn' (b : List Nat) : dNe (nL b) (.lst []) = some (!decide (b = [])) := dNe_nn b
theorem fallen_gvW {l : List Stone} (hl : l.length ≤ 100) {u : List Nat} (hu : ∀ k ∈ u, k < l.length) {i : Nat} (hi : i < l.length) (s : Bool) :
    Gv (m_law_fallen (.lst (l.map stD)) (nL u) (.int i) (.str (sideS s))) (fun t => ∃ m, t = dcD m ∧ FallM l u i s m) := by
  unfold m_law_fallen
  have hm0 : mSet [] (.int i) (.int 0) = some [((i : Int), D.int 0)] := by
    unfold mSet
    simp only [decInt_i, Option.bind_some]
    rw [if_pos (by rw [sizeLine_eq]; exact Nat.zero_lt_succ _)]
    rfl
  refine gv_bind hm0 ?_
  have at_ : ∀ k, k < l.length → dIx (.lst (l.map stD)) (.int k) = some (stD (l.getD k (0, 0))) := fun k hk => atI_s hk
  refine gv_whileS (fun z => ∃ (t : Nat) (lv : List Nat) (m : DM), z = (nL lv, .int t, m) ∧ (∀ y, y ∈ lv ↔ (BF l u i s t).2 y) ∧ Dif m ∧ (∀ k d, (k, d) ∈ m ↔ ∃ j t' : Nat, k = (j : Int) ∧ d = .int (t' : Int) ∧ t' ≤ t ∧ (BF l u i s t').2 j))
    (fun z => 2 * (1000 - z.2.2.length) + (match z.1 with | .lst [] => 0 | _ => 1)) ?_ ?_ ?_
  · refine ⟨0, [i], _, rfl, fun y => ?_, by unfold Dif; simp, fun k d => ?_⟩
    · show y ∈ [i] ↔ y = i
      simp
    · constructor
      · intro h
        simp only [List.mem_singleton] at h
        cases h
        exact ⟨i, 0, rfl, rfl, Nat.le_refl _, rfl⟩
      · rintro ⟨j, t', rfl, rfl, h1, h2⟩
        have : t' = 0 := by omega
        subst this
        have : j = i := h2
        subst this
        simp
  · exact fuel_lt (by show 2 * (1000 - 1) + _ < _; simp)
  · rintro _ ⟨t, lv, m, rfl, h1, h2, h3⟩
    have seen : ∀ y : Nat, (BF l u i s t).1 y ↔ ∃ d, ((y : Int), d) ∈ m := fun y => by
      rw [bf_seen]
      constructor
      · rintro ⟨t', a, b⟩
        exact ⟨_, (h3 _ _).mpr ⟨y, t', rfl, rfl, a, b⟩⟩
      · rintro ⟨d, hd⟩
        obtain ⟨j, t', e1, _, a, b⟩ := (h3 _ _).mp hd
        have : j = y := by omega
        subst this
        exact ⟨t', a, b⟩
    have inn : ∀ {t' y : Nat}, (BF l u i s t').2 y → y < l.length := fun {t' y} h => by
      rcases bf_in h with z | z
      · omega
      · exact hu y z
    have mlen : m.length ≤ l.length := dif_len h2 fun k d hd => by
      obtain ⟨j, t', e1, _, _, b⟩ := (h3 k d).mp hd
      exact ⟨j, e1, inn b⟩
    simp only [dNe_nn', Option.bind_some]
    by_cases q : lv = []
    · left
      refine ⟨by rw [decide_eq_true q]; rfl, gv_some ⟨m, rfl, h2, fun k d => ?_⟩⟩
      rw [h3]
      constructor
      · rintro ⟨j, t', a, b, _, c⟩; exact ⟨j, t', a, b, c⟩
      · rintro ⟨j, t', a, b, c⟩
        refine ⟨j, t', a, b, ?_, c⟩
        rcases Nat.lt_or_ge t t' with z | z
        · exfalso
          have := bf_end (l := l) (u := u) (i := i) (s := s) (t := t) (fun y hy => by have := (h1 y).mpr hy; rw [q] at this; cases this) (t' - t) j
          rw [show t + (t' - t) = t' by omega] at this
          exact this c
        · exact z
    · right
      refine ⟨by rw [decide_eq_false q]; rfl, ?_⟩
      refine gv_bind (dAddX_ii _ _) (gv_bind (dSeq_l _) ?_)
      rw [show (t : Int) + 1 = ((t + 1 : Nat) : Int) by omega]
      have lens : ∀ {m2 : DM} {fl : List Nat}, Dif m2 → Ent m2 m fl (.int ((t + 1 : Nat) : Int)) → (∀ y ∈ fl, y < l.length) → m2.length ≤ l.length := fun {m2 fl} d1 d2 d3 => dif_len d1 fun k d hd => by
        rcases (d2 k d).mp hd with z | ⟨j, z1, z2, _⟩
        · obtain ⟨j, t', e1, _, _, b⟩ := (h3 k d).mp z
          exact ⟨j, e1, inn b⟩
        · exact ⟨j, z2, d3 j z1⟩
      refine gv_forS (fun r z => ∃ (dn fl : List Nat) (m2 : DM), z = (m2, fl.map fun n => D.int (n : Nat)) ∧ lv = dn ++ r ∧ m2.length = m.length + fl.length ∧ Dif m2 ∧ Ent m2 m fl (.int ((t + 1 : Nat) : Int)) ∧ ∀ y, y ∈ fl ↔ y ∈ u ∧ ¬ (BF l u i s t).1 y ∧ ∃ x ∈ dn, Hit l s x y) ?_ ?_ ?_
      · exact ⟨[], [], m, rfl, rfl, rfl, h2, fun k d => by simp, fun y => by simp⟩
      · rintro x r _ ⟨dn, fl, m2, rfl, g1, g2, g3, g4, g5⟩
        have hx : x < l.length := inn ((h1 x).mp (by rw [g1]; simp))
        refine gv_bind (at_ x hx) (gv_bind (stD_un _) (gv_bind (dSeq_l _) ?_))
        refine gv_forS (fun r2 z => ∃ (du fl2 : List Nat) (m3 : DM), z = (m3, fl2.map fun n => D.int (n : Nat)) ∧ u = du ++ r2 ∧ m3.length = m.length + fl2.length ∧ Dif m3 ∧ Ent m3 m fl2 (.int ((t + 1 : Nat) : Int)) ∧ ∀ y, y ∈ fl2 ↔ y ∈ fl ∨ (y ∈ du ∧ ¬ (BF l u i s t).1 y ∧ Hit l s x y)) ?_ ?_ ?_
        · exact ⟨[], fl, m2, rfl, rfl, g2, g3, g4, fun y => by simp⟩
        · rintro y r2 _ ⟨du, fl2, m3, rfl, f1, f2, f3, f4, f5⟩
          have hyu : y ∈ u := by rw [f1]; simp
          have hy := hu y hyu
          have inU : ∀ z ∈ fl2, z < l.length := fun z hz => by
            rcases (f5 z).mp hz with hz | hz
            · exact hu z ((g5 z).mp hz).1
            · exact hu z (by rw [f1]; exact List.mem_append_left _ hz.1)
          have l3 := lens f3 f4 inU
          refine gv_bind (dEq_ss _ _) ?_
          refine gv_gv (R := fun q => ∃ p : Int, q = .int p ∧ (Hit l s x y ↔ 0 < p ∧ p ≤ (l.getD x (0, 0)).2)) ?_ ?_
          · cases s with
            | true => exact gv_cT (gv_bind (at_ y hy) (gv_bind (stD_0 _) (gv_bind (dSub_ii _ _) (gv_some ⟨_, rfl, Iff.rfl⟩))))
            | false => exact gv_cF (gv_bind (at_ y hy) (gv_bind (stD_0 _) (gv_bind (dSub_ii _ _) (gv_some ⟨_, rfl, Iff.rfl⟩))))
          rintro _ ⟨p, rfl, hp⟩
          refine gv_bind (dLt_ii _ _) (gv_bind (dLe_ii _ _) ?_)
          have step : ∀ fl3 : List Nat, (∀ z, z ∈ fl3 ↔ z ∈ fl2 ∨ (z = y ∧ ¬ (BF l u i s t).1 y ∧ Hit l s x y)) → ∀ z, z ∈ fl3 ↔ z ∈ fl ∨ (z ∈ du ++ [y] ∧ ¬ (BF l u i s t).1 z ∧ Hit l s x z) := fun fl3 e z => by
            rw [e, f5, List.mem_append, List.mem_singleton]
            constructor
            · rintro ((z1 | z1) | ⟨rfl, z2, z3⟩)
              · exact .inl z1
              · exact .inr ⟨.inl z1.1, z1.2⟩
              · exact .inr ⟨.inr rfl, z2, z3⟩
            · rintro (z1 | ⟨z1 | z1, z2, z3⟩)
              · exact .inl (.inl z1)
              · exact .inl (.inr ⟨z1, z2, z3⟩)
              · subst z1; exact .inr ⟨rfl, z2, z3⟩
          by_cases hh : Hit l s x y
          · obtain ⟨hh1, hh2⟩ := hp.mp hh
            rw [decide_eq_true hh1, decide_eq_true hh2]
            cases hg : mGet m3 (y : Int) with
            | some d =>
              have e9 : hasN (mHas m3 (.int (y : Nat))) = some false := by unfold hasN mHas; simp only [decInt_i, Option.bind_some, hg]; rfl
              refine gv_gv (R := fun q => q = false) (gv_cT (gv_bind e9 (gv_some rfl))) ?_
              rintro _ rfl
              refine gv_cF (gv_some ⟨du ++ [y], fl2, m3, rfl, by simp [f1], f2, f3, f4, step fl2 fun z => ⟨.inl, ?_⟩⟩)
              rintro (z1 | ⟨rfl, z2, z3⟩)
              · exact z1
              · rcases (f4 _ _).mp (mGet_some hg) with w | ⟨j, w1, w2, _⟩
                · exact absurd ((seen z).mpr ⟨d, w⟩) z2
                · have : j = z := by omega
                  subst this; exact w1
            | none =>
              have e9 : hasN (mHas m3 (.int (y : Nat))) = some true := by unfold hasN mHas; simp only [decInt_i, Option.bind_some, hg]; rfl
              refine gv_gv (R := fun q => q = true) (gv_cT (gv_bind e9 (gv_some rfl))) ?_
              rintro _ rfl
              have hno := mGet_no hg
              have hne : ∀ p ∈ m3, p.1 ≠ (y : Int) := fun p hp e => by
                obtain ⟨k, d⟩ := p
                have e : k = (y : Int) := e
                subst e
                exact hno d hp
              have hset : mSet m3 (.int (y : Nat)) (.int ((t + 1 : Nat) : Int)) = some (m3 ++ [((y : Int), D.int ((t + 1 : Nat) : Int))]) := by
                unfold mSet
                simp only [decInt_i, Option.bind_some]
                rw [if_pos (by rw [sizeLine_eq]; omega), mPut_new hne]
              have hns : ¬ (BF l u i s t).1 y := fun z => by
                obtain ⟨d, hd⟩ := (seen y).mp z
                exact hno d ((f4 _ _).mpr (.inl hd))
              refine gv_cT (gv_bind hset (gv_bind (lApp_of (by rw [List.length_map]; omega)) (gv_some ?_)))
              refine ⟨du ++ [y], fl2 ++ [y], _, by rw [List.map_append]; rfl, by simp [f1], by simp; omega, ?_, fun k d => ?_, step _ fun z => ?_⟩
              · unfold Dif
                rw [List.pairwise_append]
                refine ⟨f3, by simp, fun a ha b hb => ?_⟩
                simp only [List.mem_singleton] at hb
                subst hb
                exact hne a ha
              · rw [List.mem_append, f4 k d, List.mem_singleton]
                constructor
                · rintro ((w | ⟨j, w1, w2, w3⟩) | w)
                  · exact .inl w
                  · exact .inr ⟨j, List.mem_append_left _ w1, w2, w3⟩
                  · cases w; exact .inr ⟨y, by simp, rfl, rfl⟩
                · rintro (w | ⟨j, w1, rfl, rfl⟩)
                  · exact .inl (.inl w)
                  · rcases List.mem_append.mp w1 with w1 | w1
                    · exact .inl (.inr ⟨j, w1, rfl, rfl⟩)
                    · simp only [List.mem_singleton] at w1
                      subst w1; exact .inr rfl
              · rw [List.mem_append, List.mem_singleton]
                constructor
                · rintro (w | rfl)
                  · exact .inl w
                  · exact .inr ⟨rfl, hns, hh⟩
                · rintro (w | ⟨w, _⟩)
                  · exact .inl w
                  · exact .inr w
          · have e9 : (decide (0 < p) && decide (p ≤ (l.getD x (0, 0)).2)) = false := by
              rw [Bool.and_eq_false_iff, decide_eq_false_iff_not, decide_eq_false_iff_not]
              by_cases z : 0 < p
              · exact .inr fun w => hh (hp.mpr ⟨z, w⟩)
              · exact .inl z
            rw [e9]
            refine gv_gv (R := fun q => q = false) (gv_cF (gv_some rfl)) ?_
            rintro _ rfl
            refine gv_cF (gv_some ⟨du ++ [y], fl2, m3, rfl, by simp [f1], f2, f3, f4, step fl2 fun z => ⟨.inl, ?_⟩⟩)
            rintro (z1 | ⟨_, _, z3⟩)
            · exact z1
            · exact absurd z3 hh
        · rintro _ ⟨du, fl2, m3, rfl, f1, f2, f3, f4, f5⟩
          rw [List.append_nil] at f1
          subst f1
          refine gv_some ⟨dn ++ [x], fl2, m3, rfl, by simp [g1], f2, f3, f4, fun y => ?_⟩
          rw [f5, g5]
          constructor
          · rintro (⟨a, b, x', c, d⟩ | ⟨a, b, c⟩)
            · exact ⟨a, b, x', List.mem_append_left _ c, d⟩
            · exact ⟨a, b, x, by simp, c⟩
          · rintro ⟨a, b, x', c, d⟩
            rcases List.mem_append.mp c with c | c
            · exact .inl ⟨a, b, x', c, d⟩
            · simp only [List.mem_singleton] at c
              subst c; exact .inr ⟨a, b, d⟩
      · rintro _ ⟨dn, fl, m2, rfl, g1, g2, g3, g4, g5⟩
        rw [List.append_nil] at g1
        subst g1
        have inU : ∀ z ∈ fl, z < l.length := fun z hz => hu z ((g5 z).mp hz).1
        have l3 := lens g3 g4 inU
        have hlv : ∀ y, y ∈ fl ↔ (BF l u i s (t + 1)).2 y := fun y => by
          rw [g5, bf_l]
          constructor
          · rintro ⟨a, b, x, c, d⟩; exact ⟨a, b, x, (h1 x).mp c, d⟩
          · rintro ⟨a, b, x, c, d⟩; exact ⟨a, b, x, (h1 x).mpr c, d⟩
        refine gv_some ⟨⟨t + 1, fl, m2, rfl, hlv, g3, fun k d => ?_⟩, ?_⟩
        · rw [g4, h3]
          constructor
          · rintro (⟨j, t', a, b, c, e⟩ | ⟨j, a, b, c⟩)
            · exact ⟨j, t', a, b, by omega, e⟩
            · exact ⟨j, t + 1, b, c, Nat.le_refl _, (hlv j).mp a⟩
          · rintro ⟨j, t', a, b, c, e⟩
            by_cases z : t' = t + 1
            · subst z; exact .inr ⟨j, (hlv j).mpr e, a, b⟩
            · exact .inl ⟨j, t', a, b, by omega, e⟩
        · obtain ⟨a, lv', rfl⟩ : ∃ a lv', lv = a :: lv' := by
            cases lv with
            | nil => exact absurd rfl q
            | cons a lv' => exact ⟨a, lv', rfl⟩
          show 2 * (1000 - m2.length) + (match D.lst (fl.map fun n => D.int (n : Nat)) with | .lst [] => 0 | _ => 1) < 2 * (1000 - m.length) + 1
          cases fl with
          | nil =>
            simp only [List.length_nil] at g2
            show 2 * (1000 - m2.length) + 0 < _
            omega
          | cons b fl =>
            simp only [List.length_cons] at g2
            show 2 * (1000 - m2.length) + 1 < _
            omega
theorem fallen_gv {l : List Stone} (hl : l.length ≤ 40) {u : List Nat} (hu : ∀ k ∈ u, k < l.length) {i : Nat} (hi : i < l.length) (s : Bool) :
    Gv (m_law_fallen (.lst (l.map stD)) (nL u) (.int i) (.str (sideS s))) (fun t => ∃ m, t = dcD m ∧ FallM l u i s m) := fallen_gvW (by omega) hu hi s
/-! ### LiveRow -/
/-- the stones of a state -/
def stand (w : List Str) (x : Str) : List Nat := (List.range w.length).filter fun i => decide (w.getD i "" = x)
/-- some stones change their state -/
def setS (w : List Str) (js : List Nat) (x : Str) : List Str := (List.range w.length).map fun i => if i ∈ js then x else w.getD i ""
@[simp] theorem setS_length (w : List Str) (js : List Nat) (x : Str) : (setS w js x).length = w.length := by unfold setS; simp
theorem cut_fall {up : List Nat} {r : Nat × Nat} (h1 : r.1 ≤ r.2) (h2 : r.2 < up.length) : dCut (nL up) (some (r.1 : Int)) (some ((r.2 + 1 : Nat) : Int)) = some (nL (fall up r)) := by
  unfold dCut nL DL.cutD
  simp only [HT.sIx_nat, List.length_map]
  unfold fall
  rw [Nat.min_eq_left (by omega), Nat.min_eq_left (by omega), List.map_take, List.map_drop]
/-! what stands after a push -/
/-! ### more operations at known data -/
@[simp] theorem dEq_bb (i j : Bool) : dEq (.bl i) (.bl j) = some (decide (i = j)) := by
  unfold dEq; rw [if_pos (by rfl)]; rfl
@[simp] theorem dNe_bb (i j : Bool) : dNe (.bl i) (.bl j) = some (!decide (i = j)) := by unfold dNe; simp
@[simp] theorem dNe_ss (i j : Str) : dNe (.str i) (.str j) = some (!decide (i = j)) := by unfold dNe; simp
theorem dEq_nonnon : dEq .non .non = some true := by
  unfold dEq; rw [if_pos (by rfl)]; rfl
theorem dEq_nil : dEq (.lst []) (.lst []) = some true := by
  rw [dEq_dd rfl rfl rfl (by decide) (by decide)]; simp
theorem dR3 : dRange1 (.int 3) = some ((List.range 3).map fun k => D.int (k : Nat)) := dRange1_n (n := 3) (by omega)
/-! ### _law_like of a value and itself -/
def lk : Nat → D → Prop
  | 0, _ => False
  | n + 1, .tup ds => ds.length ≤ 1000 ∧ ∀ d ∈ ds, lk n d
  | n + 1, .lst ds => ds.length ≤ 1000 ∧ ∀ d ∈ ds, lk n d
  | _ + 1, .int _ => True
  | _ + 1, .bl _ => True
  | _ + 1, .str _ => True
  | _ + 1, .non => True
  | _, _ => False
theorem lcG_none {f : D → Option (Option D)} {ds : List D} (hl : ds.length ≤ 1000) (h : ∀ d ∈ ds, f d = some none) : lcG f ds = some [] := by
  have := lcG_fm (f := f) (e := id) (fun _ => none) ds hl h
  rw [List.map_id] at this
  rw [this]
  congr 1
  induction ds with
  | nil => rfl
  | cons a ds ih => simp
theorem gv_eq {τ : Type} {x : Option τ} {t : τ} (h : Gv x fun y => y = t) : x = some t := by
  obtain ⟨y, h, rfl⟩ := h; exact h
theorem lk_nL (n : Nat) {b : List Nat} (h : b.length ≤ 1000) : lk (n + 2) (nL b) := by
  refine ⟨by simpa using h, fun d hd => ?_⟩
  obtain ⟨k, _, rfl⟩ := List.mem_map.mp hd
  trivial
/-! ### what the operations of a live row do -/
/-! ### pushes one after another -/
/-- from u by ps (stone, side): what each fells, what stands behind -/
inductive Flo (l : List Stone) : List Nat → List (Nat × Bool) → List (List Nat) → List Nat → Prop
  | nil (u : List Nat) : Flo l u [] [] u
  | cons {u v : List Nat} {ps : List (Nat × Bool)} {os : List (List Nat)} {j k : Nat} {b : Bool} : j < u.length → u.getD j 0 = k → Flo l (u.take (runOf (pick l u) j b).1 ++ u.drop ((runOf (pick l u) j b).2 + 1)) ps os v →
      Flo l u ((k, b) :: ps) (fall u (runOf (pick l u) j b) :: os) v
theorem Flo.snoc {l : List Stone} {u v : List Nat} {ps : List (Nat × Bool)} {os : List (List Nat)} (h : Flo l u ps os v) {j k : Nat} {b : Bool} (hj : j < v.length) (hk : v.getD j 0 = k) :
    Flo l u (ps ++ [(k, b)]) (os ++ [fall v (runOf (pick l v) j b)]) (v.take (runOf (pick l v) j b).1 ++ v.drop ((runOf (pick l v) j b).2 + 1)) := by
  induction h with
  | nil u => exact .cons hj hk (.nil _)
  | cons h1 h2 _ ih => exact .cons h1 h2 (ih hj hk)
theorem Flo.len {l : List Stone} {u v : List Nat} {ps : List (Nat × Bool)} {os : List (List Nat)} (h : Flo l u ps os v) : os.length = ps.length := by
  induction h with
  | nil u => rfl
  | cons _ _ _ ih => simp [ih]
abbrev psD (p : Nat × Bool) : D := .tup [.int p.1, .str (sideS p.2)]
theorem cut_hd {u : List Nat} {k : Nat} (h : k ≤ u.length) : dCutX (nL u) none (some (k : Int)) = some (nL (u.take k)) := by
  show some (D.lst (DL.cutD (u.map fun n => D.int (n : Nat)) none (some (k : Int)))) = _
  unfold DL.cutD nL
  simp only [HT.sIx_nat, HT.sIx_none, List.length_map, List.drop_zero, Nat.sub_zero]
  rw [Nat.min_eq_left h, List.map_take]
theorem cut_tl {u : List Nat} {k : Nat} (h : k ≤ u.length) : dCutX (nL u) (some (k : Int)) none = some (nL (u.drop k)) := by
  show some (D.lst (DL.cutD (u.map fun n => D.int (n : Nat)) (some (k : Int)) none)) = _
  unfold DL.cutD nL
  simp only [HT.sIx_nat, HT.sIx_none, List.length_map]
  rw [Nat.min_eq_left h, List.map_drop, List.take_of_length_le (by simp)]
theorem dAdd_n {a b : List Nat} (h : a.length + b.length ≤ 1000) : dAddX (nL a) (nL b) = some (nL (a ++ b)) := by
  show (if _ then _ else _) = _
  rw [if_pos (by rw [sizeLine_eq]; simp; omega)]
  unfold nL
  rw [List.map_append]
theorem chk_push {l : List Stone} {u : List Nat} {i : D} {k : Nat} {b : Bool} (hk : k < l.length) (hu : k ∈ u) : m_check_push (bD l) i (psD (k, b)) (nL u) = some .non := by
  refine gv_eq ?_
  unfold m_check_push
  refine gv_bind (dUn2_t _ _) (gv_bind (check_n hk) (gv_bind (side_s b) (gv_bind (dNin_n _ _) ?_)))
  rw [decide_eq_true hu]
  exact gv_cF (gv_some rfl)
/-- a turn -/
def FloT (l : List Stone) (F : D → D → (D → GX.GR) → (D → GX.GR) → GX.GR) : Prop := ∀ (i : Nat) (k j : Nat) (b : Bool) (u : List Nat) (kn kb : D → GX.GR), u.Sublist (List.range l.length) → j < u.length → u.getD j 0 = k →
  F (.tup [.int i, psD (k, b)]) (nL u) kn kb = GX.gY (nL (fall u (runOf (pick l u) j b))) (kn (nL (u.take (runOf (pick l u) j b).1 ++ u.drop ((runOf (pick l u) j b).2 + 1))))
theorem sub_cut {u : List Nat} {a b : Nat} (h : a ≤ b) : (u.take a ++ u.drop b).Sublist u := by
  have e : u = u.take a ++ u.drop a := (List.take_append_drop a u).symm
  conv => rhs; rw [e]
  refine List.Sublist.append_left ?_ _
  rw [show b = a + (b - a) by omega, ← List.drop_drop]
  exact List.drop_sublist _ _
theorem run_le2 {l : List Stone} {u : List Nat} {j : Nat} {b : Bool} (hj : j < u.length) : (runOf (pick l u) j b).1 ≤ (runOf (pick l u) j b).2 + 1 := by
  have := runOf_le (l := pick l u) (i := j) (b := b) (by unfold pick; rw [List.length_map]; exact hj)
  omega
theorem flo_loop {l : List Stone} {F : D → D → (D → GX.GR) → (D → GX.GR) → GX.GR} (hF : FloT l F) {kk : D → GX.GR} {u v : List Nat} {ps : List (Nat × Bool)} {os : List (List Nat)} (h : Flo l u ps os v) : u.Sublist (List.range l.length) → kk (nL v) = some ([], true) →
    ∀ i, GX.forG F (enumD i (ps.map psD)) (nL u) kk = some (os.map nL, true) := by
  induction h with
  | nil u => intro _ hk i; exact hk
  | @cons u v ps os j k b h1 h2 _ ih =>
    intro hu hk i
    show F (.tup [.int i, psD (k, b)]) (nL u) (fun s' => GX.forG F (enumD (i + 1) (ps.map psD)) s' kk) kk = _
    rw [hF i k j b u _ _ hu h1 h2]
    rw [ih ((sub_cut (run_le2 h1)).trans hu) hk (i + 1)]
    rfl
theorem dFew_c {ds : List D} (h : ds.length ≤ 100000) : dFew ds = some ds := if_pos h
theorem falls_b {l : List Stone} (hv : Valid l) {ps : List (Nat × Bool)} {os : List (List Nat)} {v : List Nat} (h : Flo l (List.range l.length) ps os v) : m_falls_by (bD l) (.tup (ps.map psD)) = some (os.map nL, true) := by
  have hl := hv.1
  refine gv_eq ?_
  unfold m_falls_by
  have e1 : dLen (bD l) = some (.int l.length) := by simp
  refine gv_bind e1 (gv_bind (dRange1_n (by omega)) (gv_bind (dFew_c (by simp; omega)) (gv_bind (show dEnum (.tup (ps.map psD)) = some (enumD 0 (ps.map psD)) from rfl) ?_)))
  refine ⟨_, flo_loop ?_ h (List.Sublist.refl _) rfl 0, rfl⟩
  intro i k j b u kn kb hu hj hk
  have hul : u.length ≤ 40 := by have := hu.length_le; rw [List.length_range] at this; omega
  have hlt : ∀ x ∈ u, x < l.length := fun x hx => List.mem_range.mp (hu.subset hx)
  have hnd : u.Nodup := (List.nodup_range).sublist hu
  have hmem : k ∈ u := by
    rw [← hk, List.getD_eq_getElem?_getD, List.getElem?_eq_getElem hj]; exact List.getElem_mem hj
  have hpl : (pick l u).length = u.length := by unfold pick; simp
  have r1 := runOf_lt (l := pick l u) (i := j) (b := b) (by omega)
  have r2 := runOf_le (l := pick l u) (i := j) (b := b) (by omega)
  obtain ⟨j', j1, j2, j3⟩ := index_b hmem
  have ej : j' = j := ix_uniq hnd j1 hj (j2.trans hk.symm)
  subst ej
  have hrow : m_row_of (.lst (u.map fun x => stD (l.getD x (0, 0)))) = some (bD (pick l u)) := row_of_v (by unfold pick; rw [List.map_map]; rfl) (hv.sub (pick_sub hu))
  generalize hr : runOf (pick l u) j' b = r at *
  refine bto (dUn2_t _ _) (bto (chk_push (hlt k hmem) hmem) (bto (dUn2_t _ _) (bto (dSeq_l _) (bto (lcG_map (fun x => stD (l.getD x (0, 0))) u (by omega) (fun x hx => by
    rw [dIx_t, atI_s (hlt x hx)]; rfl)) (bto hrow (bto j3 (bto (run_b (by omega) (by omega)) ?_)))))))
  rw [hr]
  refine bto (dUn2_t _ _) (bto (decInt_i _) (bto (dAddX_ii _ _) (bto (decInt_i _) ?_)))
  rw [show (r.2 : Int) + 1 = ((r.2 + 1 : Nat) : Int) by omega]
  refine bto (cut_fall r2 (by omega)) ?_
  congr 1
  refine bto (decInt_i _) (bto (cut_hd (by omega)) (bto (dAddX_ii _ _) (bto (decInt_i _) ?_)))
  rw [show (r.2 : Int) + 1 = ((r.2 + 1 : Nat) : Int) by omega]
  exact bto (cut_tl (by omega)) (bto (dAdd_n (by rw [List.length_take, List.length_drop]; omega)) rfl)
/-! ### what is hit is the run of the stones that stand -/
theorem sub_up {u : List Nat} {n : Nat} (h : u.Sublist (List.range n)) : u.Pairwise (· < ·) := List.pairwise_lt_range.sublist h
theorem sub_lt {u : List Nat} {n : Nat} (h : u.Sublist (List.range n)) : ∀ k ∈ u, k < n := fun k hk => List.mem_range.mp (h.subset hk)
theorem sub_len {u : List Nat} {n : Nat} (h : u.Sublist (List.range n)) : u.length ≤ n := by have := h.length_le; rwa [List.length_range] at this
theorem sub_nodup {u : List Nat} {n : Nat} (h : u.Sublist (List.range n)) : u.Nodup := List.nodup_range.sublist h
theorem up_get {u : List Nat} (h : u.Pairwise (· < ·)) {a b : Nat} (hab : a < b) (hb : b < u.length) : u.getD a 0 < u.getD b 0 := by
  rw [List.pairwise_iff_getElem] at h
  have := h a b (by omega) hb hab
  rw [List.getD_eq_getElem?_getD, List.getD_eq_getElem?_getD, List.getElem?_eq_getElem (by omega), List.getElem?_eq_getElem hb]
  exact this
theorem up_iff {u : List Nat} (h : u.Pairwise (· < ·)) {a b : Nat} (ha : a < u.length) (hb : b < u.length) : u.getD a 0 < u.getD b 0 ↔ a < b := by
  rcases Nat.lt_trichotomy a b with z | z | z
  · have := up_get h z hb; omega
  · subst z; omega
  · have := up_get h z ha; omega
theorem get_mem {u : List Nat} {a : Nat} (ha : a < u.length) : u.getD a 0 ∈ u := by
  rw [List.getD_eq_getElem?_getD, List.getElem?_eq_getElem ha]; exact List.getElem_mem ha
theorem mem_get {u : List Nat} {k : Nat} (h : k ∈ u) : ∃ a, a < u.length ∧ u.getD a 0 = k := by
  obtain ⟨a, ha, e⟩ := List.getElem_of_mem h
  exact ⟨a, ha, by rw [List.getD_eq_getElem?_getD, List.getElem?_eq_getElem ha]; exact e⟩
theorem pick_len (l : List Stone) (u : List Nat) : (pick l u).length = u.length := by unfold pick; simp
theorem pick_get {l : List Stone} {u : List Nat} {a : Nat} (ha : a < u.length) : (pick l u).getD a (0, 0) = l.getD (u.getD a 0) (0, 0) := by
  unfold pick
  simp [ha]
theorem pick_plc {l : List Stone} {u : List Nat} {a : Nat} (ha : a < u.length) : plc (pick l u) a = plc l (u.getD a 0) := by unfold plc; rw [pick_get ha]
theorem pick_edl {l : List Stone} {u : List Nat} {a : Nat} (ha : a < u.length) : edl (pick l u) a = edl l (u.getD a 0) := by unfold edl; rw [pick_get ha]
theorem pick_lfl {l : List Stone} {u : List Nat} {a : Nat} (ha : a < u.length) : lfl (pick l u) a = lfl l (u.getD a 0) := by unfold lfl; rw [pick_get ha]
theorem pick_rise {l : List Stone} (hr : Rise l) {u : List Nat} (hu : u.Sublist (List.range l.length)) : Rise (pick l u) := fun p q h1 h2 => by
  rw [pick_len] at h2
  rw [pick_plc (by omega), pick_plc h2]
  exact hr _ _ (up_get (sub_up hu) h1 h2) (sub_lt hu _ (get_mem h2))
theorem run_self {v : List Stone} {a : Nat} (ha : a < v.length) (s : Bool) : a ∈ rng (runOf v a s) := by
  rw [rng_mem]
  cases s with
  | true => exact ⟨Nat.le_refl _, rightEnd_ge⟩
  | false => exact ⟨runOf_le ha, Nat.le_refl _⟩
theorem run_step {v : List Stone} (hr : Rise v) {a b c : Nat} {s : Bool} (ha : a < v.length) (hb : b < v.length) (hc : c < v.length) (h : c ∈ rng (runOf v a s)) (h1 : bef s c b) (h2 : rch v s c b) : b ∈ rng (runOf v a s) := by
  obtain ⟨g1, g2⟩ := (run_char ha hc).mp h
  refine (run_char ha hb).mpr ⟨.inr (beq_bef g1 h1), fun q x y => ?_⟩
  rcases bef_tri s q c with z | z | z
  · exact g2 q x (.inr z)
  · exact g2 q x (.inl z)
  · refine ⟨c, g1, z, ?_⟩
    cases s with
    | true =>
      have h2 : plc v b ≤ edl v c := h2
      show plc v q ≤ edl v c
      have : q ≤ b := by rcases y with y | y; omega; exact Nat.le_of_lt y
      have := hr.le this hb
      omega
    | false =>
      have h2 : lfl v c ≤ plc v b := h2
      show lfl v c ≤ plc v q
      have h3 : b ≤ q := by rcases y with y | y; omega; exact Nat.le_of_lt y
      have z : q < c := z
      have := hr.le h3 (by omega)
      omega
section
variable {l : List Stone} {u : List Nat} {s : Bool}
theorem hit_iff (hr : Rise l) (hu : u.Sublist (List.range l.length)) {c b : Nat} (hc : c < u.length) (hb : b < u.length) : Hit l s (u.getD c 0) (u.getD b 0) ↔ bef s c b ∧ rch (pick l u) s c b := by
  have h1 := sub_lt hu _ (get_mem hc)
  have h2 := sub_lt hu _ (get_mem hb)
  have e1 := up_iff (sub_up hu) hc hb
  have e2 := up_iff (sub_up hu) hb hc
  have m1 : u.getD c 0 < u.getD b 0 → plc l (u.getD c 0) < plc l (u.getD b 0) := fun z => hr _ _ z h2
  have m2 : u.getD b 0 < u.getD c 0 → plc l (u.getD b 0) < plc l (u.getD c 0) := fun z => hr _ _ z h1
  have m3 : u.getD b 0 = u.getD c 0 → plc l (u.getD b 0) = plc l (u.getD c 0) := fun z => by rw [z]
  cases s with
  | true =>
    show (0 < plc l (u.getD b 0) - plc l (u.getD c 0) ∧ plc l (u.getD b 0) - plc l (u.getD c 0) ≤ ht l (u.getD c 0)) ↔ c < b ∧ plc (pick l u) b ≤ edl (pick l u) c
    rw [pick_plc hb, pick_edl hc, edl_ht]
    omega
  | false =>
    show (0 < plc l (u.getD c 0) - plc l (u.getD b 0) ∧ plc l (u.getD c 0) - plc l (u.getD b 0) ≤ ht l (u.getD c 0)) ↔ b < c ∧ lfl (pick l u) c ≤ plc (pick l u) b
    rw [pick_plc hb, pick_lfl hc, lfl_ht]
    omega
theorem get_inj (hu : u.Sublist (List.range l.length)) {a b : Nat} (ha : a < u.length) (hb : b < u.length) (h : u.getD a 0 = u.getD b 0) : a = b := by
  have e1 := up_iff (sub_up hu) ha hb
  have e2 := up_iff (sub_up hu) hb ha
  omega
theorem bf_to (hr : Rise l) (hu : u.Sublist (List.range l.length)) {a : Nat} (ha : a < u.length) : ∀ (t b : Nat), b < u.length → (BF l u (u.getD a 0) s t).2 (u.getD b 0) → b ∈ rng (runOf (pick l u) a s)
  | 0, b, hb, h => by
    have : b = a := get_inj hu hb ha h
    subst this
    exact run_self (by rw [pick_len]; exact hb) s
  | t + 1, b, hb, h => by
    obtain ⟨_, _, x, hx, hh⟩ := bf_l.mp h
    obtain ⟨c, hc, rfl⟩ : ∃ c, c < u.length ∧ u.getD c 0 = x := by
      rcases bf_in hx with z | z
      · exact ⟨a, ha, z.symm⟩
      · exact mem_get z
    have ih := bf_to hr hu ha t c hc hx
    obtain ⟨h1, h2⟩ := (hit_iff hr hu hc hb).mp hh
    have hl := pick_len l u
    exact run_step (pick_rise hr hu) (by omega) (by omega) (by omega) ih h1 h2
theorem bf_from (hr : Rise l) (hu : u.Sublist (List.range l.length)) {a : Nat} (ha : a < u.length) : ∀ (n b : Nat), (b - a) + (a - b) ≤ n → b < u.length → b ∈ rng (runOf (pick l u) a s) → ∃ t, (BF l u (u.getD a 0) s t).2 (u.getD b 0)
  | n, b, hn, hb, h => by
    by_cases e : b = a
    · subst e; exact ⟨0, rfl⟩
    · have hl := pick_len l u
      obtain ⟨g1, g2⟩ := (run_char (by omega) (by omega)).mp h
      have hab : bef s a b := g1.resolve_left fun z => e z.symm
      obtain ⟨k, k1, k2, k3⟩ := g2 b hab (.inl rfl)
      have hk : k < u.length := by
        cases s with
        | true => have : k < b := k2; omega
        | false =>
          have : k = a ∨ k < a := by rcases k1 with z | z; exact .inl z.symm; exact .inr z
          omega
      have hkr : k ∈ rng (runOf (pick l u) a s) := (run_char (by omega) (by omega)).mpr ⟨k1, fun q x y => g2 q x (.inr (beq_bef y k2))⟩
      have hlt : (k - a) + (a - k) < (b - a) + (a - b) := by
        cases s with
        | true =>
          have z1 : k < b := k2
          have z2 : a ≤ k := by rcases k1 with z | z; omega; exact Nat.le_of_lt z
          omega
        | false =>
          have z1 : b < k := k2
          have z2 : k ≤ a := by rcases k1 with z | z; omega; exact Nat.le_of_lt z
          omega
      obtain ⟨m, rfl⟩ : ∃ m, n = m + 1 := ⟨n - 1, by omega⟩
      obtain ⟨t, ht⟩ := bf_from hr hu ha m k (by omega) hk hkr
      by_cases q : (BF l u (u.getD a 0) s t).1 (u.getD b 0)
      · obtain ⟨t', _, h2⟩ := bf_seen.mp q
        exact ⟨t', h2⟩
      · exact ⟨t + 1, bf_l.mpr ⟨get_mem hb, q, _, ht, (hit_iff hr hu hk hb).mpr ⟨k2, k3⟩⟩⟩
theorem bf_run (hr : Rise l) (hu : u.Sublist (List.range l.length)) {a b : Nat} (ha : a < u.length) (hb : b < u.length) : (∃ t, (BF l u (u.getD a 0) s t).2 (u.getD b 0)) ↔ b ∈ rng (runOf (pick l u) a s) :=
  ⟨fun ⟨t, h⟩ => bf_to hr hu ha t b hb h, fun h => bf_from hr hu ha _ b (Nat.le_refl _) hb h⟩
/-- the stones that are left -/
def left (l : List Stone) (u : List Nat) (a : Nat) (s : Bool) : List Nat := u.take (runOf (pick l u) a s).1 ++ u.drop ((runOf (pick l u) a s).2 + 1)
theorem fall_iff {r : Nat × Nat} {k : Nat} : k ∈ fall u r ↔ ∃ b, b < u.length ∧ r.1 ≤ b ∧ b ≤ r.2 ∧ u.getD b 0 = k := by
  constructor
  · intro h
    unfold fall at h
    obtain ⟨j, hj⟩ := List.getElem?_of_mem h
    rw [List.getElem?_take] at hj
    split at hj
    · rw [List.getElem?_drop] at hj
      obtain ⟨h1, h2⟩ := List.getElem?_eq_some_iff.mp hj
      exact ⟨r.1 + j, h1, by omega, by omega, by rw [List.getD_eq_getElem?_getD, hj]; rfl⟩
    · cases hj
  · rintro ⟨b, h1, h2, h3, rfl⟩
    exact fall_mem h1 h2 h3
theorem fallM_has (hr : Rise l) (hu : u.Sublist (List.range l.length)) {a : Nat} (ha : a < u.length) {m : DM} (h : FallM l u (u.getD a 0) s m) {k : Nat} (hk : k ∈ u) : (mGet m (k : Int)).isSome = decide (k ∈ fall u (runOf (pick l u) a s)) := by
  obtain ⟨b, hb, rfl⟩ := mem_get hk
  rw [Bool.eq_iff_iff, decide_eq_true_eq, fall_iff, Option.isSome_iff_exists]
  constructor
  · rintro ⟨d, hd⟩
    obtain ⟨j, t, e1, _, e2⟩ := (h.2 _ _).mp (mGet_some hd)
    have : j = u.getD b 0 := by omega
    subst this
    have := rng_mem.mp ((bf_run hr hu ha hb).mp ⟨t, e2⟩)
    exact ⟨b, hb, this.1, this.2, rfl⟩
  · rintro ⟨c, hc, c1, c2, e⟩
    have : c = b := get_inj hu hc hb e
    subst this
    obtain ⟨t, ht⟩ := (bf_run (s := s) hr hu ha hb).mpr (rng_mem.mpr ⟨c1, c2⟩)
    exact ⟨_, mGet_dif h.1 ((h.2 _ _).mpr ⟨_, t, rfl, rfl, ht⟩)⟩
theorem left_sub (hu : u.Sublist (List.range l.length)) {a : Nat} (ha : a < u.length) : (left l u a s).Sublist (List.range l.length) := by
  refine List.Sublist.trans ?_ hu
  have hl := pick_len l u
  have h1 := runOf_le (l := pick l u) (i := a) (b := s) (by omega)
  unfold left
  have e : u = u.take (runOf (pick l u) a s).1 ++ u.drop (runOf (pick l u) a s).1 := (List.take_append_drop _ _).symm
  conv => rhs; rw [e]
  refine List.Sublist.append (List.Sublist.refl _) ?_
  have : u.drop ((runOf (pick l u) a s).2 + 1) = (u.drop (runOf (pick l u) a s).1).drop ((runOf (pick l u) a s).2 + 1 - (runOf (pick l u) a s).1) := by
    rw [List.drop_drop]
    congr 1
    omega
  rw [this]
  exact List.drop_sublist _ _
end
/-! ### the stones of a wave, sorted -/
theorem fallM_keys {l : List Stone} (hr : Rise l) {u : List Nat} (hu : u.Sublist (List.range l.length)) {a : Nat} (ha : a < u.length) {s : Bool} {m : DM} (h : FallM l u (u.getD a 0) s m) : sortI (m.map fun p => p.1) = iN (fall u (runOf (pick l u) a s)) := by
  refine sortI_ext ?_ ?_ fun k => ?_
  · unfold List.Nodup
    rw [List.pairwise_map]
    exact h.1
  · unfold iN
    rw [List.pairwise_map]
    exact (fallU (sub_up hu) _).imp fun h => by omega
  · constructor
    · intro hk
      obtain ⟨⟨k', d⟩, hp, rfl⟩ := List.mem_map.mp hk
      obtain ⟨j, t, e1, e2, e3⟩ := (h.2 _ _).mp hp
      have e1 : k' = (j : Int) := e1
      subst e1
      have hj : j ∈ u := by
        rcases bf_in e3 with z | z
        · rw [z]; exact get_mem ha
        · exact z
      have := fallM_has hr hu ha h hj
      rw [mGet_dif h.1 hp] at this
      exact mem_iN.mpr (by simpa using this.symm)
    · intro hk
      obtain ⟨j, hj, rfl⟩ := List.mem_map.mp hk
      have hju : j ∈ u := by
        obtain ⟨b, h1, _, _, rfl⟩ := fall_iff.mp hj
        exact get_mem h1
      have := fallM_has hr hu ha h hju
      rw [decide_eq_true hj] at this
      obtain ⟨d, hd⟩ := Option.isSome_iff_exists.mp this
      exact List.mem_map.mpr ⟨_, mGet_some hd, rfl⟩
/-! ### _law_alike of a value and itself -/
theorem alike_lst {n : Nat} {ds : List D} (hl : ds.length ≤ 1000) (hd : ∀ d ∈ ds, m_law_alike n d d = some (.bl true)) : m_law_alike (n + 1) (.lst ds) (.lst ds) = some (.bl true) := by
  refine gv_eq ?_
  rw [m_law_alike]
  refine gv_bind (isi_lst _ _) (gv_bind (dB_b _) (gv_bind (a := true) rfl (gv_cT (gv_bind (isi_lst _ _) (gv_bind (isi_lst _ _) (gv_bind (dNe_bb _ _) (gv_bind (a := false) ?_ (gv_cF (gv_bind (dLen_l _) (gv_bind (dRange1_n (by omega)) (gv_bind (lcG_none (by simpa using hl) ?_) (gv_bind dEq_nil (gv_some rfl)))))))))))))
  · simp only [dLen_l, Option.bind_some, dNe_ii, decide_true, Bool.not_true, cond_false]
  · intro d' hd'
    obtain ⟨k, hk, rfl⟩ := List.mem_map.mp hd'
    have hk := List.mem_range.mp hk
    have e : dIx (.lst ds) (.int (k : Nat)) = some ds[k] := atI_get' (by simp [hk])
    rw [e, Option.bind_some, Option.bind_some, hd _ (List.getElem_mem hk)]
    rfl
theorem alike_tup {n : Nat} {ds : List D} (hl : ds.length ≤ 1000) (hd : ∀ d ∈ ds, m_law_alike n d d = some (.bl true)) : m_law_alike (n + 1) (.tup ds) (.tup ds) = some (.bl true) := by
  refine gv_eq ?_
  rw [m_law_alike]
  refine gv_bind (isi_tup _ _) (gv_bind (dB_b _) (gv_bind (a := true) rfl (gv_cT (gv_bind (isi_tup _ _) (gv_bind (isi_tup _ _) (gv_bind (dNe_bb _ _) (gv_bind (a := false) ?_ (gv_cF (gv_bind (dLen_t _) (gv_bind (dRange1_n (by omega)) (gv_bind (lcG_none (by simpa using hl) ?_) (gv_bind dEq_nil (gv_some rfl)))))))))))))
  · simp only [dLen_t, Option.bind_some, dNe_ii, decide_true, Bool.not_true, cond_false]
  · intro d' hd'
    obtain ⟨k, hk, rfl⟩ := List.mem_map.mp hd'
    have hk := List.mem_range.mp hk
    have e : dIx (.tup ds) (.int (k : Nat)) = some ds[k] := atI_get' (by simp [hk])
    rw [e, Option.bind_some, Option.bind_some, hd _ (List.getElem_mem hk)]
    rfl
theorem alike_sc {n : Nat} {d : D} (h : d.flt = true) : m_law_alike (n + 1) d d = some (.bl true) := by
  rw [m_law_alike]
  cases d <;> simp only [D.flt] at h <;> first | cases h | skip
  all_goals simp [Kd.isTup, Kd.isLst, Kd.isBool, Kd.isInt, Kd.isStr, dEq_nonnon]
theorem alike_refl (n : Nat) : ∀ d : D, lk n d → m_law_alike n d d = some (.bl true) := by
  induction n with
  | zero => intro d h; exact h.elim
  | succ n ih =>
    intro d h
    cases d with
    | tup ds => exact alike_tup h.1 fun d hd => ih d (h.2 d hd)
    | lst ds => exact alike_lst h.1 fun d hd => ih d (h.2 d hd)
    | int i => exact alike_sc rfl
    | bl i => exact alike_sc rfl
    | str i => exact alike_sc rfl
    | non => exact alike_sc rfl
    | _ => exact h.elim
/-! ### the law k06 -/
theorem orX_n {α : Type} {a b r : Option α} (h : a = none) (h2 : b = r) : orX a b = r := by subst h; exact h2
theorem orX_s {α : Type} {a b : Option α} {x : α} (h : a = some x) : orX a b = some x := by subst h; rfl
theorem xcheck06 {l : List Stone} {k : Nat} (h : k < l.length) : x_Row_check_stone (bD l) (.int k) = none := by
  unfold x_Row_check_stone
  refine bto (dLen_t _) ?_
  rw [List.length_map]
  refine bto (dSub_ii _ _) (bto (isint_i _ _ _) ?_)
  rw [decide_eq_true (by omega), decide_eq_true (by omega)]
  rfl
theorem xcheck06n {l : List Stone} : x_Row_check_stone (bD l) (.int (l.length : Nat)) = some ⟨"UnknownStone", [], []⟩ := by
  unfold x_Row_check_stone
  refine bto (dLen_t _) ?_
  rw [List.length_map]
  refine bto (dSub_ii _ _) (bto (isint_i _ _ _) ?_)
  rw [decide_eq_false (by omega : ¬ (l.length : Int) ≤ (l.length : Int) - 1), Bool.and_false]
  rfl
theorem xside06 (b : Bool) : x_check_side (.str (sideS b)) = none := by cases b <;> rfl
theorem xchk_none {l : List Stone} {u : List Nat} {i : D} {k : Nat} {b : Bool} (hk : k < l.length) (hu : k ∈ u) : x_check_push (bD l) i (psD (k, b)) (nL u) = none := by
  unfold x_check_push
  refine bto (dUn2_t _ _) (orX_n (xcheck06 hk) (bto (check_n hk) (orX_n (xside06 b) (bto (side_s b) (bto (dNin_n _ _) ?_)))))
  rw [decide_eq_true hu]
  rfl
theorem xchk_stone {l : List Stone} {i y w : D} : x_check_push (bD l) i (.tup [.int (l.length : Nat), y]) w = some ⟨"UnknownStone", [], []⟩ := by
  unfold x_check_push
  exact bto (dUn2_t _ _) (orX_s xcheck06n)
theorem xchk_side {l : List Stone} {i y w : D} {k : Nat} (hk : k < l.length) (hy : x_check_side y = some ⟨"InvalidSide", [], []⟩) : x_check_push (bD l) i (.tup [.int k, y]) w = some ⟨"InvalidSide", [], []⟩ := by
  unfold x_check_push
  exact bto (dUn2_t _ _) (orX_n (xcheck06 hk) (bto (check_n hk) (orX_s hy)))
theorem xchk_fallen {l : List Stone} {u : List Nat} {i k : Nat} {b : Bool} (hk : k < l.length) (hu : ¬ k ∈ u) (hi : i < 100) : x_check_push (bD l) (.int i) (psD (k, b)) (nL u) = some ⟨"AlreadyFallen", ["index"], [.int i]⟩ := by
  unfold x_check_push
  refine bto (dUn2_t _ _) (orX_n (xcheck06 hk) (bto (check_n hk) (orX_n (xside06 b) (bto (side_s b) (bto (dNin_n _ _) ?_)))))
  rw [decide_eq_false hu]
  have e : dSmall (.int (i : Nat)) = some (i : Int) := by
    unfold dSmall
    exact if_pos (by rw [Int.natAbs_natCast]; exact Nat.lt_of_lt_of_le hi (by decide))
  show (dSmall (.int (i : Nat))).bind _ = _
  rw [e]
  rfl
/-! #### the generator that raises -/
def FloX (l : List Stone) (F : D → D → (D → GX.GRo XN) → (D → GX.GRo XN) → GX.GRo XN) : Prop := ∀ (i : Nat) (k j : Nat) (b : Bool) (u : List Nat) (kn kb : D → GX.GRo XN), u.Sublist (List.range l.length) → j < u.length → u.getD j 0 = k →
  F (.tup [.int i, psD (k, b)]) (nL u) kn kb = GX.gY (nL (fall u (runOf (pick l u) j b))) (kn (nL (u.take (runOf (pick l u) j b).1 ++ u.drop ((runOf (pick l u) j b).2 + 1))))
def FloB (l : List Stone) (F : D → D → (D → GX.GRo XN) → (D → GX.GRo XN) → GX.GRo XN) : Prop := ∀ (i : Nat) (y p : D) (u : List Nat) (kn kb : D → GX.GRo XN) (xn : XN), x_check_push (bD l) (.int i) p (nL u) = some xn → F (.tup [.int i, p]) (nL u) kn kb = some ([], xn)
theorem xflo_none {l : List Stone} {F : D → D → (D → GX.GRo XN) → (D → GX.GRo XN) → GX.GRo XN} (hF : FloX l F) {kk : D → GX.GRo XN} {u v : List Nat} {ps : List (Nat × Bool)} {os : List (List Nat)} (h : Flo l u ps os v) : u.Sublist (List.range l.length) → kk (nL v) = none →
    ∀ i, GX.forG F (enumD i (ps.map psD)) (nL u) kk = none := by
  induction h with
  | nil u => intro _ hk i; exact hk
  | @cons u v ps os j k b h1 h2 _ ih =>
    intro hu hk i
    show F (.tup [.int i, psD (k, b)]) (nL u) (fun s' => GX.forG F (enumD (i + 1) (ps.map psD)) s' kk) kk = _
    rw [hF i k j b u _ _ hu h1 h2]
    rw [ih ((sub_cut (run_le2 h1)).trans hu) hk (i + 1)]
    rfl
theorem xflo_bad {l : List Stone} {F : D → D → (D → GX.GRo XN) → (D → GX.GRo XN) → GX.GRo XN} (hF : FloX l F) (hB : FloB l F) {kk : D → GX.GRo XN} {u v : List Nat} {ps : List (Nat × Bool)} {os : List (List Nat)} {p : D} {more : List D} {xn : XN} (h : Flo l u ps os v) : u.Sublist (List.range l.length) →
    ∀ i : Nat, x_check_push (bD l) (.int (i + ps.length : Nat)) p (nL v) = some xn → GX.forG F (enumD i (ps.map psD ++ p :: more)) (nL u) kk = some (os.map nL, xn) := by
  induction h with
  | nil u =>
    intro _ i hx
    show F (.tup [.int i, p]) (nL u) _ kk = _
    exact hB i p p u _ _ xn hx
  | @cons u v ps os j k b h1 h2 _ ih =>
    intro hu i hx
    show F (.tup [.int i, psD (k, b)]) (nL u) (fun s' => GX.forG F (enumD (i + 1) (ps.map psD ++ p :: more)) s' kk) kk = _
    rw [hF i k j b u _ _ hu h1 h2]
    rw [ih ((sub_cut (run_le2 h1)).trans hu) (i + 1) (by rw [← hx]; congr 3; simp; omega)]
    rfl
theorem falls_F {l : List Stone} (hv : Valid l) (ds : List D) :
    ∃ F : D → D → (D → GX.GRo XN) → (D → GX.GRo XN) → GX.GRo XN, x_falls_by (bD l) (.tup ds) = GX.forG F (enumD 0 ds) (nL (List.range l.length)) (fun _ => none) ∧ FloX l F ∧ FloB l F := by
  have hl := hv.1
  have e1 : dLen (bD l) = some (.int l.length) := by simp
  unfold x_falls_by
  refine ⟨_, bto e1 (bto (dRange1_n (by omega)) (bto (dFew_c (by simp; omega)) (bto (show dEnum (.tup ds) = some (enumD 0 ds) from rfl) rfl))), ?_, ?_⟩
  · intro i k j b u kn kb hu hj hk
    have hul : u.length ≤ 40 := by have := hu.length_le; rw [List.length_range] at this; omega
    have hlt : ∀ x ∈ u, x < l.length := fun x hx => List.mem_range.mp (hu.subset hx)
    have hnd : u.Nodup := (List.nodup_range).sublist hu
    have hmem : k ∈ u := by
      rw [← hk, List.getD_eq_getElem?_getD, List.getElem?_eq_getElem hj]; exact List.getElem_mem hj
    have hpl : (pick l u).length = u.length := by unfold pick; simp
    have r1 := runOf_lt (l := pick l u) (i := j) (b := b) (by omega)
    have r2 := runOf_le (l := pick l u) (i := j) (b := b) (by omega)
    obtain ⟨j', j1, j2, j3⟩ := index_b hmem
    have ej : j' = j := ix_uniq hnd j1 hj (j2.trans hk.symm)
    subst ej
    have hrow : m_row_of (.lst (u.map fun x => stD (l.getD x (0, 0)))) = some (bD (pick l u)) := row_of_v (by unfold pick; rw [List.map_map]; rfl) (hv.sub (pick_sub hu))
    generalize hr : runOf (pick l u) j' b = r at *
    refine bto (dUn2_t _ _) (orX_n (by rw [xchk_none (hlt k hmem) hmem]; rfl) (bto (chk_push (hlt k hmem) hmem) (bto (dUn2_t _ _) (bto (dSeq_l _) (bto (lcG_map (fun x => stD (l.getD x (0, 0))) u (by omega) (fun x hx => by
      rw [dIx_t, atI_s (hlt x hx)]; rfl)) (bto hrow (bto j3 (bto (run_b (by omega) (by omega)) ?_))))))))
    rw [hr]
    refine bto (dUn2_t _ _) (bto (decInt_i _) (bto (dAddX_ii _ _) (bto (decInt_i _) ?_)))
    rw [show (r.2 : Int) + 1 = ((r.2 + 1 : Nat) : Int) by omega]
    refine bto (cut_fall r2 (by omega)) ?_
    congr 1
    refine bto (decInt_i _) (bto (cut_hd (by omega)) (bto (dAddX_ii _ _) (bto (decInt_i _) ?_)))
    rw [show (r.2 : Int) + 1 = ((r.2 + 1 : Nat) : Int) by omega]
    exact bto (cut_tl (by omega)) (bto (dAdd_n (by rw [List.length_take, List.length_drop]; omega)) rfl)
  · intro i y p u kn kb xn hx
    refine bto (dUn2_t _ _) (orX_s ?_)
    rw [hx]; first | done | rfl
theorem xfalls_none {l : List Stone} (hv : Valid l) {ps : List (Nat × Bool)} {os : List (List Nat)} {v : List Nat} (h : Flo l (List.range l.length) ps os v) : x_falls_by (bD l) (.tup (ps.map psD)) = none := by
  obtain ⟨F, e, hF, _⟩ := falls_F hv (ps.map psD)
  rw [e]
  exact xflo_none hF h (List.Sublist.refl _) rfl 0
theorem xfalls_bad {l : List Stone} (hv : Valid l) {ps : List (Nat × Bool)} {os : List (List Nat)} {v : List Nat} (h : Flo l (List.range l.length) ps os v) {p : D} {more : List D} {xn : XN} (hx : x_check_push (bD l) (.int (ps.length : Nat)) p (nL v) = some xn) :
    x_falls_by (bD l) (.tup (ps.map psD ++ p :: more)) = some (os.map nL, xn) := by
  obtain ⟨F, e, hF, hB⟩ := falls_F hv (ps.map psD ++ p :: more)
  rw [e]
  exact xflo_bad hF hB h (List.Sublist.refl _) 0 (by rw [Nat.zero_add]; exact hx)
/-! #### what is played -/
theorem forS_app : ∀ (ds acc : List D), acc.length + ds.length ≤ 1000 → forS (fun d (l : List D) => (lApp l d).bind fun t => some t) ds acc = some (acc ++ ds)
  | [], acc, _ => by simp [forS]
  | d :: ds, acc, h => by
    have h : acc.length + (ds.length + 1) ≤ 1000 := h
    show ((lApp acc d).bind fun t => some t).bind _ = _
    rw [lApp_of (by omega)]
    show forS _ ds (acc ++ [d]) = _
    rw [forS_app ds (acc ++ [d]) (by simp; omega)]
    simp
theorem forH_app {τ : Type} : ∀ (ds acc : List D), acc.length + ds.length ≤ 1000 → GX.forH (τ := τ) (fun d (l : List D) => (lApp l d).bind fun t => some (.nx t)) ds true acc = some (.nx (acc ++ ds))
  | [], acc, _ => by simp [GX.forH]
  | d :: ds, acc, h => by
    have h : acc.length + (ds.length + 1) ≤ 1000 := h
    show ((lApp acc d).bind fun t => some (Fl.nx t)).bind _ = _
    rw [lApp_of (by omega)]
    show GX.forH _ ds true (acc ++ [d]) = _
    rw [forH_app ds (acc ++ [d]) (by simp; omega)]
    simp
theorem at4 {P : List D} (h0 : 1 ≤ P.length) (h1 : P.length ≤ 4) : (∃ a, P = [a]) ∨ (∃ a b, P = [a, b]) ∨ (∃ a b c, P = [a, b, c]) ∨ ∃ a b c d, P = [a, b, c, d] := by
  rcases P with _ | ⟨a, _ | ⟨b, _ | ⟨c, _ | ⟨d, _ | ⟨e, P⟩⟩⟩⟩⟩
  · simp at h0
  · exact .inl ⟨a, rfl⟩
  · exact .inr (.inl ⟨a, b, rfl⟩)
  · exact .inr (.inr (.inl ⟨a, b, c, rfl⟩))
  · exact .inr (.inr (.inr ⟨a, b, c, d, rfl⟩))
  · simp at h1
theorem btoT {α : Type} {a : Option Bool} {A B r : Option α} (h : a = some true) (h2 : A = r) : (a.bind fun t => cond t A B) = r := by rw [h]; exact h2
theorem btoF {α : Type} {a : Option Bool} {A B r : Option α} (h : a = some false) (h2 : B = r) : (a.bind fun t => cond t A B) = r := by rw [h]; exact h2
theorem played_m {a : D} {P outs : List D} (h0 : 1 ≤ P.length) (h1 : P.length ≤ 4) (hf : m_falls_by a (.tup P) = some (outs, true)) (ho : outs.length ≤ 900) : m_law_played a (.lst P) [] = some (.non, outs) := by
  have fin : ∀ (r : Option (List D × Bool)), r = some (outs, true) → (r.bind fun z => (match z with | (l4, b5) => (GX.forH (τ := D × List D) (fun d7 => fun (l6 : List D) => (lApp l6 d7).bind fun t8 => some (.nx t8)) l4 b5 []).bind fun z => (match z with | .nx l9 => some (D.non, l9) | .rt t => some t | .bk _ => none))) = some (.non, outs) := fun r e => by
    subst e
    show (GX.forH _ outs true []).bind _ = _
    rw [forH_app outs [] (by simp; omega)]
    rfl
  unfold m_law_played
  rcases at4 h0 h1 with ⟨a, rfl⟩ | ⟨a, b, rfl⟩ | ⟨a, b, c, rfl⟩ | ⟨a, b, c, d, rfl⟩
  · exact bto (dLen_l _) (btoT (by rw [dEq_ii]; rfl) (bto (at0 _ _) (fin _ hf)))
  · exact bto (dLen_l _) (btoF (by rw [dEq_ii]; rfl) (bto (dLen_l _) (btoT (by rw [dEq_ii]; rfl) (bto (at0 _ _) (bto (at1 _ _ _) (fin _ hf))))))
  · exact bto (dLen_l _) (btoF (by rw [dEq_ii]; rfl) (bto (dLen_l _) (btoF (by rw [dEq_ii]; rfl) (bto (dLen_l _) (btoT (by rw [dEq_ii]; rfl) (bto (at0 _ _) (bto (at1 _ _ _) (bto (at2 _ _ _ _) (fin _ hf)))))))))
  · exact bto (dLen_l _) (btoF (by rw [dEq_ii]; rfl) (bto (dLen_l _) (btoF (by rw [dEq_ii]; rfl) (bto (dLen_l _) (btoF (by rw [dEq_ii]; rfl) (bto (at0 _ _) (bto (at1 _ _ _) (bto (at2 _ _ _ _) (bto (at3 _ _ _ _ _) (fin _ hf))))))))))
theorem played_x {a : D} {P : List D} {o : Option (XN × List D)} (h0 : 1 ≤ P.length) (h1 : P.length ≤ 4) (hf : (x_falls_by a (.tup P) = none ∧ o = none) ∨ ∃ outs xn, x_falls_by a (.tup P) = some (outs, xn) ∧ outs.length ≤ 900 ∧ inL xcL xn.nm = some () ∧ o = some (xn, outs)) : x_law_played a (.lst P) [] = o := by
  have fin : ∀ (r : Option (List D × XN)), r = x_falls_by a (.tup P) → (r.bind fun z => (match z with | (l4, x5) => (inL xcL x5.nm).bind fun _ => (forS (fun d7 => fun (l6 : List D) => (lApp l6 d7).bind fun t8 => some t8) l4 []).bind fun l6 => some (x5, l6))) = o := fun r e => by
    rcases hf with ⟨e1, rfl⟩ | ⟨outs, xn, e1, e2, e3, rfl⟩
    · rw [e, e1]; rfl
    · rw [e, e1]
      show (inL xcL xn.nm).bind _ = _
      rw [e3]
      show (forS _ outs []).bind _ = _
      rw [forS_app outs [] (by simp; omega)]
      rfl
  unfold x_law_played
  rcases at4 h0 h1 with ⟨a, rfl⟩ | ⟨a, b, rfl⟩ | ⟨a, b, c, rfl⟩ | ⟨a, b, c, d, rfl⟩
  · exact bto (dLen_l _) (btoT (by rw [dEq_ii]; rfl) (bto (at0 _ _) (fin _ rfl)))
  · exact bto (dLen_l _) (btoF (by rw [dEq_ii]; rfl) (bto (dLen_l _) (btoT (by rw [dEq_ii]; rfl) (bto (at0 _ _) (bto (at1 _ _ _) (fin _ rfl))))))
  · exact bto (dLen_l _) (btoF (by rw [dEq_ii]; rfl) (bto (dLen_l _) (btoF (by rw [dEq_ii]; rfl) (bto (dLen_l _) (btoT (by rw [dEq_ii]; rfl) (bto (at0 _ _) (bto (at1 _ _ _) (bto (at2 _ _ _ _) (fin _ rfl)))))))))
  · exact bto (dLen_l _) (btoF (by rw [dEq_ii]; rfl) (bto (dLen_l _) (btoF (by rw [dEq_ii]; rfl) (bto (dLen_l _) (btoF (by rw [dEq_ii]; rfl) (bto (at0 _ _) (bto (at1 _ _ _) (bto (at2 _ _ _ _) (bto (at3 _ _ _ _ _) (fin _ rfl))))))))))
/-- what has been pushed and what is due -/
structure Bad (l : List Stone) (v : List Nat) (n : Nat) (p : D) (xn : XN) (err : D) : Prop where
  x : x_check_push (bD l) (.int n) p (nL v) = some xn
  su : m_su_law_raised xn = some err
  xc : inL xcL xn.nm = some ()
  non : err.isNone = false
  ne : dNe err err = some false
inductive Pld (l : List Stone) (ps : List (Nat × Bool)) (v : List Nat) : List D → D → Prop
  | good : Pld l ps v (ps.map psD) .non
  | bad {p : D} {more : List D} {xn : XN} {err : D} (h : Bad l v ps.length p xn err) : Pld l ps v (ps.map psD ++ p :: more) err
theorem Pld.len {l : List Stone} {ps : List (Nat × Bool)} {v : List Nat} {P : List D} {err : D} (h : Pld l ps v P err) : ps.length ≤ P.length := by
  cases h with
  | good => simp
  | bad h => simp
theorem su_stone6 : m_su_law_raised ⟨"UnknownStone", [], []⟩ = some (.tup [.str "stone"]) := by rfl
theorem su_side6 : m_su_law_raised ⟨"InvalidSide", [], []⟩ = some (.tup [.str "side"]) := by rfl
theorem su_fallen6 (i : Int) : m_su_law_raised ⟨"AlreadyFallen", ["index"], [.int i]⟩ = some (.tup [.str "fallen", .int i]) := by rfl
theorem okS6 {x : Str} (h : PyData.strOk x = true) : (D.tup [.str x]).ok = true := by simp [D.ok, okAll, h]
theorem okI6 {x : Str} {i : Int} (h : PyData.strOk x = true) : (D.tup [.str x, .int i]).ok = true := by simp [D.ok, okAll, h]
theorem dNe_sm6 {d : D} (hs : scD d d = false) (h1 : d.ok = true) (h2 : d.dep ≤ 64) : dNe d d = some false := by
  unfold dNe
  rw [dEq_dd hs h1 h1 h2 h2]
  simp
theorem bad_stone {l : List Stone} {v : List Nat} {n : Nat} {y : D} : Bad l v n (.tup [.int (l.length : Nat), y]) ⟨"UnknownStone", [], []⟩ (.tup [.str "stone"]) :=
  ⟨xchk_stone, su_stone6, rfl, rfl, dNe_sm6 rfl (okS6 (by decide +kernel)) (by simp [D.dep, depAll])⟩
theorem bad_side {l : List Stone} {v : List Nat} {n k : Nat} {y : D} (hk : k < l.length) (hy : x_check_side y = some ⟨"InvalidSide", [], []⟩) : Bad l v n (.tup [.int k, y]) ⟨"InvalidSide", [], []⟩ (.tup [.str "side"]) :=
  ⟨xchk_side hk hy, su_side6, rfl, rfl, dNe_sm6 rfl (okS6 (by decide +kernel)) (by simp [D.dep, depAll])⟩
theorem bad_fallen {l : List Stone} {v : List Nat} {n k : Nat} {b : Bool} (hk : k < l.length) (hv : ¬ k ∈ v) (hn : n < 100) : Bad l v n (psD (k, b)) ⟨"AlreadyFallen", ["index"], [.int n]⟩ (.tup [.str "fallen", .int n]) :=
  ⟨xchk_fallen hk hv hn, su_fallen6 _, rfl, rfl, dNe_sm6 rfl (okI6 (by decide +kernel)) (by simp [D.dep, depAll])⟩
/-- the side that is drawn -/
def SdY (y : D) : Prop := (∃ b, y = .str (sideS b)) ∨ (dNinF y (.tup [.str "left", .str "right"]) = some true ∧ x_check_side y = some ⟨"InvalidSide", [], []⟩)
theorem sdy_in (b : Bool) : dNinF (.str (sideS b)) (.tup [.str "left", .str "right"]) = some false := by cases b <;> rfl
theorem up_at {v : Nat} (h : v < 2) : ∃ y, dIx (.lst [.str "up", .non]) (.int v) = some y ∧ dNinF y (.tup [.str "left", .str "right"]) = some true ∧ x_check_side y = some ⟨"InvalidSide", [], []⟩ := by
  have : v = 0 ∨ v = 1 := by omega
  rcases this with rfl | rfl
  · exact ⟨_, rfl, rfl, rfl⟩
  · exact ⟨_, rfl, rfl, rfl⟩
theorem dif_lt {l : List Stone} {u : List Nat} (hu : u.Sublist (List.range l.length)) {i : Nat} (hi : i < l.length) {s : Bool} {m : DM} (h : FallM l u i s m) : m.length ≤ l.length := dif_len h.1 fun k d hd => by
  obtain ⟨j, t, e1, _, e3⟩ := (h.2 k d).mp hd
  refine ⟨j, e1, ?_⟩
  rcases bf_in e3 with z | z
  · omega
  · exact sub_lt hu _ z
theorem due_b {l : List Stone} (hl : l.length ≤ 40) (hr : Rise l) {u : List Nat} (hu : u.Sublist (List.range l.length)) {a : Nat} (ha : a < u.length) {s : Bool} {m : DM} (h : FallM l u (u.getD a 0) s m) : dSortK (dcD m) = some (nL (fall u (runOf (pick l u) a s))) := by
  have hml := dif_lt hu (sub_lt hu _ (get_mem ha)) h
  unfold dSortK
  rw [decDic_of, Option.bind_some, if_pos (by omega), fallM_keys hr hu ha h, iN_map]
theorem left_b {l : List Stone} (hl : l.length ≤ 40) {u : List Nat} (hu : u.Sublist (List.range l.length)) {a : Nat} (ha : a < u.length) {s : Bool} {os : List D} :
    lcG (fun d47 => (lIx (os ++ [nL (fall u (runOf (pick l u) a s))]) (.int (-1))).bind fun t48 => (dNinX d47 t48).bind fun t49 => cond t49 (some (some d47)) (some none)) (u.map fun n => D.int (n : Nat)) = some ((left l u a s).map fun n => D.int (n : Nat)) := by
  have hn := sub_len hu
  have hp := pick_len l u
  have e0 : (u.filter fun k => decide (k ∉ fall u (runOf (pick l u) a s))) = left l u a s := filter_fall (sub_nodup hu) (runOf_le (l := pick l u) (i := a) (b := s) (by omega))
  rw [← e0]
  refine lcG_filter (fun k : Nat => decide (k ∉ fall u (runOf (pick l u) a s))) u (by omega) fun k hk => ?_
  have e1 : lIx (os ++ [nL (fall u (runOf (pick l u) a s))]) (.int (-1)) = some (nL (fall u (runOf (pick l u) a s))) := by
    show atI _ _ = _
    unfold atI ixN
    rw [if_neg (by decide), if_pos (by simp; omega)]
    have : ((-1 : Int) + ((os ++ [nL (fall u (runOf (pick l u) a s))]).length : Int)).toNat = os.length := by simp; omega
    rw [this]
    simp
  rw [e1, Option.bind_some, dNin_n, Option.bind_some]
  by_cases z : k ∈ fall u (runOf (pick l u) a s) <;> simp [z]
/-! ### the law k06, its turns -/
def LSt (l : List Stone) (n : Nat) (rest : List Nat) (s : D × D × List D × List D × List D) : Prop :=
  ∃ (ps : List (Nat × Bool)) (os : List (List Nat)) (v : List Nat) (P : List D) (err : D) (st : List D), s = (nL v, err, st, P, os.map nL) ∧ TkOk st ∧ Flo l (List.range l.length) ps os v ∧ v.Sublist (List.range l.length) ∧ Pld l ps v P err ∧ rest = List.range' P.length (n - P.length) ∧ P.length + rest.length = n
theorem flo_few {l : List Stone} {u v : List Nat} {ps : List (Nat × Bool)} {os : List (List Nat)} (h : Flo l u ps os v) : ∀ o ∈ os, o.length ≤ u.length := by
  induction h with
  | nil u => intro o ho; simp at ho
  | @cons u v ps os j k b h1 h2 _ ih =>
    intro o ho
    rcases List.mem_cons.mp ho with rfl | z
    · exact fall_len
    · exact Nat.le_trans (ih o z) (sub_cut (run_le2 h1)).length_le
theorem alike_os {os : List (List Nat)} (h1 : os.length ≤ 100) (h2 : ∀ o ∈ os, o.length ≤ 100) : m_law_alike 6 (.lst (os.map nL)) (.lst (os.map nL)) = some (.bl true) :=
  alike_refl 6 _ ⟨by simp; omega, fun d hd => by
    obtain ⟨o, ho, rfl⟩ := List.mem_map.mp hd
    exact lk_nL 3 (by have := h2 o ho; omega)⟩
theorem dNe_non6 : dNe .non .non = some false := by unfold dNe; rw [dEq_nonnon]; rfl
theorem gList_t {outs : List D} (h : outs.length ≤ 1000) : GX.gList (some (outs, true)) = some (.lst outs) := by
  unfold GX.gList
  show cond (true && decide (outs.length ≤ sizeLine)) _ _ = _
  rw [decide_eq_true (by rw [sizeLine_eq]; omega)]
  rfl
theorem cTe {α : Type} {A B r : Option α} (h : A = r) : cond true A B = r := h
theorem law_gv (ns : List Int) : Gv (m_law (.lst (ns.map D.int))) (fun t => t = .bl true) := by
  unfold m_law
  refine gv_bind dR3 ?_
  refine gv_forF (e := fun k : Nat => D.int (k : Nat)) (l := List.range 3) (fun _ st => TkOk st) (tk0 ns) ?_ ?_
  · intro x r st tk
    refine gv_gv (stones_gv tk (most := 10) (by omega)) ?_
    rintro ⟨t4, o5⟩ ⟨l, st', e, tk', hv, hl10, _⟩
    cases e
    have hl := hv.1
    refine gv_bind (row_ok hv) (gv_bind (dLen_l _) ?_)
    rw [List.length_map]
    refine gv_bind (dRange1_n (by omega)) (gv_bind (dFew_c (by simp; omega)) ?_)
    obtain ⟨v0, s0, e0, hv0, tk0'⟩ := taken_n tk' (m := 4) (by omega) (by omega)
    refine gv_bind e0 (gv_bind (dAddX_ii _ _) ?_)
    rw [show (1 : Int) + (v0 : Int) = ((1 + v0 : Nat) : Int) by omega]
    refine gv_bind (dRange1_n (by omega)) ?_
    refine gv_forS (e := fun k : Nat => D.int (k : Nat)) (l := List.range (1 + v0)) (LSt l (1 + v0)) ?_ ?_ ?_
    · exact ⟨[], [], List.range l.length, [], .non, s0, rfl, tk0', .nil _, List.Sublist.refl _, .good, by simp [List.range_eq_range'], by simp⟩
    · rintro x r s ⟨ps, os, v, P, err, st, rfl, tk, fl, sub, pl, hr, hn⟩
      obtain ⟨m, hm⟩ : ∃ m, 1 + v0 - P.length = m + 1 := ⟨1 + v0 - P.length - 1, by simp at hn; omega⟩
      rw [hm, List.range'_succ] at hr
      obtain ⟨rfl, rfl⟩ := List.cons.inj hr
      have hpl := pl.len
      have hos := fl.len
      refine gv_bind (dLen_l _) ?_
      rw [List.length_map]
      refine gv_bind (dAddX_ii _ _) ?_
      obtain ⟨k, s1, e1, hk, tk1⟩ := taken_k tk (l.length + 1) (by omega) (by omega) (i := (l.length : Int) + 1) (by omega)
      refine gv_bind e1 ?_
      obtain ⟨b0, s2, e2, hb0, tk2⟩ := taken_n tk1 (m := 2) (by omega) (by omega)
      refine gv_bind e2 ?_
      obtain ⟨b, eb⟩ := side_at hb0
      refine gv_bind eb ?_
      obtain ⟨c, s3, e3, hc, tk3⟩ := taken_n tk2 (m := 12) (by omega) (by omega)
      refine gv_bind e3 (gv_bind (dEq_ii _ _) ?_)
      refine gv_gv (R := fun z => ∃ y st', z = (y, st') ∧ TkOk st' ∧ SdY y) ?_ ?_
      · by_cases h : (c : Int) = 0
        · rw [decide_eq_true h]
          obtain ⟨u, s4, e4, hu, tk4⟩ := taken_n tk3 (m := 2) (by omega) (by omega)
          obtain ⟨y, ey, y1, y2⟩ := up_at hu
          exact gv_cT (gv_bind e4 (gv_bind ey (gv_some ⟨_, _, rfl, tk4, .inr ⟨y1, y2⟩⟩)))
        · rw [decide_eq_false h]
          exact gv_cF (gv_some ⟨_, _, rfl, tk3, .inl ⟨b, rfl⟩⟩)
      rintro ⟨y, st'⟩ ⟨y', st'', e, tk', sy⟩
      cases e
      refine gv_bind (lApp_of (by omega)) ?_
      have fin : ∀ (ps' : List (Nat × Bool)) (os' : List (List Nat)) (v' : List Nat) (err' : D), Flo l (List.range l.length) ps' os' v' → v'.Sublist (List.range l.length) → Pld l ps' v' (P ++ [.tup [.int (k : Nat), y]]) err' → LSt l (1 + v0) (List.range' (P.length + 1) m) (nL v', err', st', P ++ [.tup [.int (k : Nat), y]], os'.map nL) :=
        fun ps' os' v' err' h1 h2 h3 => ⟨ps', os', v', _, err', st', rfl, tk', h1, h2, h3, by rw [List.length_append, List.length_singleton]; congr 1; omega, by simp; omega⟩
      cases pl with
      | @bad p more xn err h =>
        refine gv_bind (a := false) (by rw [h.non]; first | done | rfl) (gv_cF (gv_bind (a := false) (by rw [h.non]; first | done | rfl) (gv_cF (gv_bind (a := false) (by rw [h.non]; first | done | rfl) (gv_cF ?_)))))
        rw [h.non]
        refine gv_cF (gv_some (fin ps os v err fl sub ?_))
        rw [List.append_assoc, List.cons_append]
        exact .bad h
      | good =>
        have hP : (ps.map psD).length = ps.length := by simp
        by_cases hk2 : k = l.length
        · refine gv_bind (a := true) (cTe <| bto (dLen_l _) (bto (x := true) (by rw [List.length_map, dEq_ii, decide_eq_true (by omega)]) rfl)) (gv_cT (gv_some (fin ps os v _ fl sub ?_)))
          subst hk2
          exact Pld.bad (more := []) bad_stone
        have hkl : k < l.length := by omega
        refine gv_bind (a := false) (cTe <| bto (dLen_l _) (bto (x := false) (by rw [List.length_map, dEq_ii, decide_eq_false (by omega)]) rfl)) (gv_cF ?_)
        rcases sy with ⟨b', rfl⟩ | ⟨y1, y2⟩
        · refine gv_bind (a := false) (cTe <| bto (sdy_in b') rfl) (gv_cF ?_)
          by_cases hmv : k ∈ v
          · refine gv_bind (a := false) (cTe <| bto (x := false) (by rw [dNin_n, decide_eq_true hmv]; rfl) rfl) (gv_cF ?_)
            obtain ⟨a, ha, hak⟩ := mem_get hmv
            refine gv_cT (gv_gv (fallen_gv hl (sub_lt sub) hkl b') ?_)
            rintro t ⟨mm, rfl, hF⟩
            rw [← hak] at hF
            refine gv_bind (due_b hl hv.rise sub ha hF) (gv_bind (lApp_of (by simp; omega)) (gv_bind (dSeq_l _) (gv_bind (left_b hl sub ha) (gv_some ?_))))
            have z := fin (ps ++ [(k, b')]) (os ++ [fall v (runOf (pick l v) a b')]) (left l v a b') .non (fl.snoc ha hak) (left_sub sub ha) (by
              have e : ps.map psD ++ [D.tup [.int (k : Nat), .str (sideS b')]] = (ps ++ [(k, b')]).map psD := by rw [List.map_append]; rfl
              rw [e]; exact .good)
            rw [List.map_append] at z
            exact z
          · refine gv_bind (a := true) (cTe <| bto (x := true) (by rw [dNin_n, decide_eq_false hmv]; rfl) rfl) (gv_cT (gv_some (fin ps os v _ fl sub ?_)))
            rw [hP]
            exact Pld.bad (more := []) (bad_fallen hkl hmv (by omega))
        · refine gv_bind (a := true) (cTe <| bto y1 rfl) (gv_cT (gv_some (fin ps os v _ fl sub ?_)))
          exact Pld.bad (more := []) (bad_side hkl y2)
    · rintro s ⟨ps, os, v, P, err, st, rfl, tk, fl, sub, pl, hr, hn⟩
      have hP : P.length = 1 + v0 := by simpa using hn
      have hpl := pl.len
      have hos := fl.len
      have hal := alike_os (os := os) (by omega) (fun o ho => by have := flo_few fl o ho; rw [List.length_range] at this; omega)
      have rest : Gv ((cond false (some true) ((m_law_alike 6 (.lst (os.map nL)) (.lst (os.map nL))).bind fun t64 => (dB t64).bind fun t65 => (dB (.bl t65)).bind fun t66 => some (!t66))).bind fun t67 => cond t67 (some (Fl.rt (D.bl false) : Fl (List D) D)) (some (.nx st))) (fun fl => ∃ s', fl = .nx s' ∧ TkOk s') :=
        gv_bind (a := false) (bto hal rfl) (gv_cF (gv_some ⟨_, rfl, tk⟩))
      cases pl with
      | good =>
        have hx := played_x (a := bD l) (P := ps.map psD) (o := none) (by omega) (by omega) (.inl ⟨xfalls_none hv fl, rfl⟩)
        have hm := played_m (a := bD l) (P := ps.map psD) (by omega) (by omega) (falls_b hv fl) (by simp; omega)
        refine gv_bind (a := (D.non, os.map nL)) (by rw [hx, hm]; rfl) (gv_bind dNe_non6 rest)
      | @bad p more xn err h =>
        have hx := played_x (a := bD l) (P := ps.map psD ++ p :: more) (o := some (xn, os.map nL)) (by omega) (by omega) (.inr ⟨_, _, xfalls_bad hv fl h.x, by simp; omega, h.xc, rfl⟩)
        refine gv_bind (a := (err, os.map nL)) (by rw [hx]; show (m_su_law_raised xn).bind _ = _; rw [h.su]; rfl) (gv_bind h.ne rest)
  · intro s _
    have v3 : Valid [(0, 3), (3, 2), (5, 1)] := ⟨by decide, by simp [okSt]⟩
    have v2 : Valid [(0, 5), (3, 1)] := ⟨by decide, by simp [okSt]⟩
    have f3 : Flo [(0, 3), (3, 2), (5, 1)] (List.range 3) [(1, false), (0, true)] [[1], [0]] [2] := Flo.cons (j := 1) (by decide) (by decide) (Flo.cons (j := 0) (by decide) (by decide) (Flo.nil _))
    refine gv_bind (init_v v3) (gv_bind (a := .lst [nL [1], nL [0]]) ?_ (gv_bind (dNe_sm6 rfl rfl (by decide)) (gv_cF (gv_bind (row_ok v2) (gv_bind (a := .lst []) ?_ (gv_bind dEq_nil (gv_some rfl)))))))
    · have e := falls_b v3 f3
      show GX.gList (m_falls_by (bD [(0, 3), (3, 2), (5, 1)]) (.tup ([(1, false), (0, true)].map psD))) = _
      rw [e]
      exact gList_t (by simp)
    · have e := falls_b v2 (Flo.nil _)
      show GX.gList (m_falls_by (bD [(0, 5), (3, 1)]) (.tup (([] : List (Nat × Bool)).map psD))) = _
      rw [e]
      exact gList_t (by simp)
theorem law_true (ns : List Int) : m_law (.lst (ns.map D.int)) = some (.bl true) := gv_eq (law_gv ns)
theorem facts {P : Program} {w : World} {K : PySem.W.Frag} {h : Heap} {mg : Str → Option Value} {f : Addr} (X : K.In h) (G : h.Ns mainGlobals mg) (hfa : mg ("law" : Str) = some (.ref f)) (c : HK.SaysM Pr.hfa hfn K) :
    ∃ fd : FuncData, (ltL.map fun g => tabA K (He.ga K g)).Nodup ∧ (∀ g ∈ ltL, PySem.W.CodeHd h (codeA K (He.ga K g)) (tabA K (He.ga K g))) ∧ (∀ (s : Shared) (v : Value), BindsTo s fd ⟨[v], []⟩ [("_law_script", v)]) ∧ ∀ base : Heap, K.In base → base.Ns mainGlobals mg → AllTB base mg K → FnOk P w K mg base CX0 14 f fd ["_law_script"] (spF K (R_law (He.ga K) (fun f => tabA K (He.ga K f)))) := by
  have T := hTx X G c
  obtain ⟨fd, F⟩ := T.d_law
  have e := hfa.symm.trans T.g_law
  cases e
  have b := FunD.bindsA (ps := ["_law_script"]) F fun _ _ _ _ _ _ us hl => match us, hl with | [_], _ => rfl
  exact ⟨fd, T.tbn, fun g hg => PySem.W.codeHd_of_K X (T.tbs g hg), fun s v => b s [v] rfl, fun base _ _ TBA => ok_law T TBA F⟩
end Pr
open PySem PySem.W PySem.Calls PyProof.Rows
theorem PySem.Challenge.cw_rowdominoes_k06_pushes_one_after_another_holds : PySem.Challenge.rw_rowdominoes_k06_pushes_one_after_another.Holds := by
  w_on; o_law
  refine HandSHeadRun.head_any (r := Pr.hR) (q := view Pr.hR.prog [36]) (H := Pr.hhk) (ob := Pr.hob) (M := 12000) (loose := Pr.hloose) (d := HandSHeadRun.topDef Pr.hR.prog 36) (kwd := []) Pr.hob_eq
    (by kernel_rfl) (fun s => by kernel_rfl) Pr.hrun (by kernel_rfl) (by kernel_rfl) (by kernel_rfl) (by rfl) (by first | assumption | decide +kernel) (by decide +kernel) ⟨rfl, rfl, rfl, rfl, rfl, by decide +kernel⟩ ?hw ?hc
  case hw => w_witness2
  case hc =>
    refine DL.walk_tab (l := PySem.Challenge.rw_rowdominoes_k06_pushes_one_after_another) (n := 63) (k := 14) (x := "_law_script") (CX := fun _ => L2.CX0) rfl (by decide) (by kernel_rfl) ⟨rfl, by decide, by decide⟩ ?F (fun _ _ _ _ _ z => z)
    intro w mg fa h Y G hmg0
    obtain ⟨K, KX, c, tb⟩ := Y
    have hmg : mg ("law" : PySem.Str) = some (.ref fa) := by
      have e : (HandSHeadRun.topDef Pr.hR.prog 36).name = ("law" : PySem.Str) := by kernel_rfl
      rw [← e]
      exact hmg0
    obtain ⟨fd, nd, hC, hb, hF⟩ := Pr.facts (P := (PySem.Challenge.rw_rowdominoes_k06_pushes_one_after_another).prog) (w := w) KX G hmg c
    have t0 := fun (g : PySem.Str) (hg : g ∈ Pr.ltL) => tb (fun K => DL.tabA K (He.ga K g)) (List.mem_map.mpr ⟨g, hg, rfl⟩)
    refine ⟨K, KX, fd, Pr.ltL.map fun g => (DL.codeA K (He.ga K g), DL.tabA K (He.ga K g)), DL.spF K (Pr.R_law (He.ga K) (fun f => DL.tabA K (He.ga K f))), ?_, ?_, ?_, hb, ?_, fun base h1 h2 h3 => hF base h1 h2 fun g hg => h3 (DL.codeA K (He.ga K g), DL.tabA K (He.ga K g)) (List.mem_map.mpr ⟨g, hg, rfl⟩)⟩
    · intro p hp; obtain ⟨g, hg, e⟩ := List.mem_map.mp hp; subst e; exact (t0 g hg).1
    · intro p hp; obtain ⟨g, hg, e⟩ := List.mem_map.mp hp; subst e; exact (t0 g hg).2
    · intro p hp; obtain ⟨g, hg, e⟩ := List.mem_map.mp hp; subst e; exact hC g hg
    · intro H a ns hl _ hP hS
      refine DL.law_sps (ts := Pr.ltL.map fun g => (DL.tabA K (He.ga K g), DL.lamQ g)) H a ns (by rw [List.map_map]; exact nd) (fun p hp => ?_) hS ⟨_, rfl, rfl, rfl, _, rfl, Pr.law_true ns⟩
      obtain ⟨g, hg, e⟩ := List.mem_map.mp hp
      subst e
      exact hP (DL.codeA K (He.ga K g), DL.tabA K (He.ga K g)) (List.mem_map.mpr ⟨g, hg, rfl⟩)
