import PyProof.Rows.All
import Wide.All
import OpenK.AllK
import Wide.FinOn
import KE.KStateDown
import Lean
import HandS.Base
import HandS.Call
import HandS.List
import HandS.Comp
import HandS.Dict
import HandS.Iter
import HandS.Text
import HandS.Ends
import HandS.More
import HandS.Exc
import HandS.Words
import HandS.WordsList
import HandS.WordsExc
import HandS.Defaults
import HandS.Star
import HandS.Walk
import HandS.Property
import HandS.Style
import HandS.IsInst
import HandS.Lambda
import HandS.TupAny
import KE.KOpsOwn
import KE.GoesMore
import KE.GoesEnum
import KE.KUnpack
import PyProof.Rows.MatchSeqLen
import HandS.Strs
import HandS.SortInts
import HandS.SetFor
import HandS.Deep
import HandS.Flt
import KE.KMinBuiltin
import HandS.SortKw
import HandS.TupSets
import HandS.TupMul
import HandS.DictComp
import HandS.SortRule
import HandS.Conv
import HandS.RaiseMore
import HandS.ExcInit
import KE.KDflt
import KE.KExcIs
import HandS.ExcField
import HandS.ExcIs
import HandS.ExcOwn
import HandS.FStr
import HandS.Small
import HandS.EndTab
import HandS.WordsDict
import HandS.ListItems
import HandS.DictTup
import PyProof.Rows.TupIter
import PyProof.CollectIter
import PyProof.MakeMany
import PyProof.Sound
import PyProof.GenRules
import HandS.GenOver
import PyProof.GenComp
import PyProof.FactsGen
import PyProof.GenObj
import HandS.GenList
import HandS.WideBits
import KE.KDictList
import HandS.ClsMeth
import HandS.HeadNt
import HandS.MethStar
import KE.KDictCopyH
import PyProof.DictTruth
import HandS.TryOnly
import HandS.ToBytes
import KE.KxField
import PyProof.Rows.StrIntSpec
import PyProof.StrOps2
import HandS.Finally
import KE.GoesRaise
import KE.KAsSuite
import PySem.Challenge.RW_rowdominoes_k46_notation
import HandS.Head0
import HandS.Head1
import HandS.Head2
import HandS.HeadEnd
import HandS.HeadHook1
import HandS.HeadHook2
import HandS.HeadHook3
set_option Elab.async false
set_option linter.all false
set_option maxRecDepth 100000
set_option maxHeartbeats 4000000
namespace DL
open PySem PySem.Spec PyProof.Rows L2
/-! what the head looks at in the written part -/
def shOk (K : PySem.W.Frag) (C : Addr) (nm : String) : Bool :=
  (match PySem.W.findIn K (.ref C) (dunderR nm) with | some none => true | _ => false) && ((PySem.W.findIn K (.type "int") (PySem.dunder nm)).isSome && ((PySem.W.findIn K (.type "int") (dunderR nm)).isSome && (match PySem.W.subIn K (.type "int") (.ref C) with | some false => true | _ => false)))
def neOk (K : PySem.W.Frag) (C : Addr) : Bool :=
  (match PySem.W.findIn K (.ref C) "__ne__" with | some (some (.builtin id)) => id == "object.__ne__" | _ => false) && (match PySem.W.mroIn K C (.type "object") with | some true => true | _ => false)
def isOk (K : PySem.W.Frag) (C : Addr) : Bool :=
  (match PySem.W.findIn K (.ref C) "__class__" with | some (some (.builtin id)) => id == "object.__class__" | _ => false) && ((match PySem.W.specialIn K (.builtin "object.__class__") "__get__" with | some (some (.builtin id)) => id == "getset_descriptor.__get__" | _ => false) &&
  ((match PySem.W.takesIn K (.builtin "object.__class__") with | some true => true | _ => false) && (match PySem.W.mroIn K C (.type "object") with | some true => true | _ => false)))
/-- where the code object of the def at f stands, and its table -/
def codeA (K : PySem.W.Frag) (f : Addr) : Addr := match K.lookup f with
  | some ⟨_, _, .func fd, _⟩ => (match fd.code with | .ref c => c | _ => 0)
  | _ => 0
def tabA (K : PySem.W.Frag) (f : Addr) : Addr := match K.lookup (codeA K f) with
  | some ⟨_, _, .fields vs, _⟩ => (match (vs[11]? : Option Value) with | some (.ref P) => P | _ => 0)
  | _ => 0
def oexB (K : PySem.W.Frag) (C : Addr) : Bool := (match K.lookup C with
  | some ⟨.type "type", _, .cls cd, sl⟩ => (match cd.mro, sl.toList with
    | .ref C' :: bm, [_, _, _, _, some (.builtin n), _] => C' == C && (n == "ValueError.__new__" && (!cd.hasDel && (cd.hasDict && PySem.HandSPX.refsVE bm)))
    | _, _ => false)
  | _ => false) && (decide (PySem.W.findIn K (.ref C) "__setattr__" = some (some (.builtin "object.__setattr__"))) && (decide (PySem.W.subIn K (.ref C) (.type "BaseException") = some true) && (decide (PySem.W.typeIn K (.ref C) = some (.type "type")) && PySem.W.keepIn K (.ref C))))
def isXB (K : PySem.W.Frag) (D : Addr) : Bool := decide (PySem.W.findIn K (.ref D) "__getattribute__" = some (some (.builtin "BaseException.__getattribute__"))) && (decide (PySem.W.findIn K (.ref D) "__getattr__" = some none) && (decide (PySem.W.subIn K (.ref D) (.type "BaseException") = some true) && (PySem.W.hasDictIn K D &&
  (decide (PySem.W.findIn K (.ref D) "__class__" = some (some (.builtin "object.__class__"))) && (decide (PySem.W.specialIn K (.builtin "object.__class__") "__get__" = some (some (.builtin "getset_descriptor.__get__"))) && (decide (PySem.W.takesIn K (.builtin "object.__class__") = some true) && decide (PySem.W.mroIn K D (.type "object") = some true)))))))
def baseB (K : PySem.W.Frag) (CS : Addr) : Bool := decide (PySem.W.specialIn K (.ref CS) "__getattribute__" = some (some (.builtin "type.__getattribute__"))) && (PySem.W.readsIn K CS (.type "type") && (match PySem.W.findCls K (.ref CS) (.type "type") "__init__" with | some (.val v) => v == .builtin "ValueError.__init__" | _ => false))
def tabB (K : PySem.W.Frag) (f : Addr) : Bool := PySem.W.codeHdIn K (codeA K f) (tabA K f)
end DL

namespace HK
open PySem PySem.W PySem.Calls PyProof.Rows He
/-! the head's facts: a list of Bools of what is looked at, and the defs at their places -/
def obsM (fa : List (Frag → Bool)) (fn : List He5.DefA) (K : Frag) : He.AlD := ((fa.all fun f => f K) && fn.all fun d => d.ok K, fn.map fun d => He5.fnA K (d.at_ K))
def valM (fn : List He5.DefA) : He.AlD := (true, fn.map He5.DefA.val)
def SaysM (fa : List (Frag → Bool)) (fn : List He5.DefA) (K : Frag) : Prop := obsM fa fn K = valM fn
section
variable {fa : List (Frag → Bool)} {fn : List He5.DefA} {K : Frag}
theorem SaysM.fact (c : SaysM fa fn K) (i : Nat) {f : Frag → Bool} (h : fa[i]? = some f) : f K = true := by
  have c1 := (ba (show ((fa.all fun f => f K) && fn.all fun d => d.ok K) = true from congrArg (fun z : He.AlD => z.1) c)).1
  exact List.all_eq_true.mp c1 f (List.mem_of_getElem? h)
theorem SaysM.def_ (c : SaysM fa fn K) (i : Nat) {d : He5.DefA} (h : fn[i]? = some d) : ∃ fd, L2.FunD K d.name d.qual d.params d.body d.scope (d.dvs K) (d.kws K) (d.at_ K) fd := by
  have c2 := (ba (show ((fa.all fun f => f K) && fn.all fun d => d.ok K) = true from congrArg (fun z : He.AlD => z.1) c)).2
  have e1 : fn.map (fun d => He5.fnA K (d.at_ K)) = fn.map He5.DefA.val := congrArg (fun z : He.AlD => z.2) c
  have e2 : (fn.map fun d => He5.fnA K (d.at_ K))[i]? = (fn.map He5.DefA.val)[i]? := by rw [e1]
  rw [List.getElem?_map, List.getElem?_map, h] at e2
  exact He5.DefA.funD (Option.some.inj e2) (List.all_eq_true.mp c2 d (List.mem_of_getElem? h))
end
/-- a property's getter -/
def pg (K : Frag) (C : Addr) (m : PySem.Str) : Addr := match recIn K (ma K C m) "property" with
  | some (.ref f :: _) => f
  | _ => 0
def propB (K : Frag) (C : Addr) (m : PySem.Str) : Bool := eqO (findIn K (.ref C) m) (some (some (.ref (ma K C m)))) && (eqO (specialIn K (.ref (ma K C m)) "__get__") (some (some (.builtin "property.__get__"))) &&
  (decide (takesIn K (.ref (ma K C m)) = some true) && (match recIn K (ma K C m) "property" with
    | some (.ref _ :: _) => true
    | _ => false)))
theorem propB_ok {K : Frag} {C : Addr} {m : PySem.Str} (h : propB K C m = true) : L2.PropOf K C m (ma K C m) (pg K C m) := by
  obtain ⟨h1, h⟩ := ba h
  obtain ⟨h2, h⟩ := ba h
  obtain ⟨h3, h4⟩ := ba h
  refine ⟨eqO_ok h1, eqO_ok h2, of_decide_eq_true h3, ?_⟩
  unfold pg
  split at h4
  · rename_i f r e
    exact ⟨r, by rw [e]⟩
  · cases h4
end HK
namespace HKT
open PySem PySem.W PySem.Calls PyProof.Rows He
/-! the head's facts where some defs make lambdas: their tables of code objects are empty and are left out of K -/
def emptyTab : Option Obj → Bool
  | some ⟨.none, none, .fields vs, sl⟩ => vs.toList.isEmpty && sl.toList.isEmpty
  | _ => false
theorem emptyTab_ok {o : Option Obj} (h : emptyTab o = true) : o = some { cls := .none, data := .fields #[] } := by
  unfold emptyTab at h
  split at h
  · rename_i vs sl
    simp only [Bool.and_eq_true, List.isEmpty_iff] at h
    obtain ⟨v⟩ := vs
    obtain ⟨s⟩ := sl
    obtain ⟨h1, h2⟩ := h
    have h1 : v = [] := h1
    have h2 : s = [] := h2
    subst h1 h2
    rfl
  · cases h
def addrs (g : Addr → Option Obj) (n : Nat) : List Addr := (He5.asA g n).filter fun a => !emptyTab (g a)
theorem lk_mem {β : Type} {a : Addr} {b : β} : ∀ {l : List (Addr × β)}, l.lookup a = some b → (a, b) ∈ l
  | [], h => by simp at h
  | (c, d) :: l, h => by
    rw [List.lookup_cons] at h
    by_cases e : a = c
    · subst e
      simp at h
      subst h
      exact .head _
    · have : (a == c) = false := beq_false_of_ne e
      rw [this] at h
      exact .tail _ (lk_mem h)
theorem look_none {g : Addr → Option Obj} {n : Nat} {P : Addr} (h : emptyTab (g P) = true) : (frG g (addrs g n)).lookup P = none := by
  cases q : (frG g (addrs g n)).lookup P with
  | none => rfl
  | some o =>
    have hm := lk_mem q
    unfold frG at hm
    obtain ⟨a, ha, e⟩ := List.mem_filterMap.mp hm
    have e2 : a = P := by
      cases q2 : g a with
      | none => rw [q2] at e; cases e
      | some o2 => rw [q2] at e; cases e; rfl
    subst e2
    have := (List.mem_filter.mp ha).2
    rw [h] at this
    cases this
def obsT (n : Nat) (fa : List (Frag → Bool)) (fn : List He5.DefA) (tb : List (Frag → Addr)) (g : Addr → Option Obj) : He.AlD :=
  ((HK.obsM fa fn (frG g (addrs g n))).1 && tb.all fun t => emptyTab (g (t (frG g (addrs g n)))), (HK.obsM fa fn (frG g (addrs g n))).2)
def Tabs (tb : List (Frag → Addr)) (K : Frag) (h : Heap) : Prop := ∀ t ∈ tb, h.get? (t K) = some { cls := .none, data := .fields #[] } ∧ K.lookup (t K) = none
def hookT (n : Nat) (fa : List (Frag → Bool)) (fn : List He5.DefA) (tb : List (Frag → Addr)) : PySem.W.Hook where
  α := He.AlD
  obs := fun s => obsT n fa fn tb s.heap.get?
  val := fun _ => HK.valM fn
  says := fun _ h => ∃ K : Frag, K.In h ∧ HK.SaysM fa fn K ∧ Tabs tb K h
  of := fun _ s e => by
    have e1 := congrArg (fun z : He.AlD => z.1) e
    have e2 := congrArg (fun z : He.AlD => z.2) e
    have e1 : ((HK.obsM fa fn (frG s.heap.get? (addrs s.heap.get? n))).1 && tb.all fun t => emptyTab (s.heap.get? (t (frG s.heap.get? (addrs s.heap.get? n))))) = true := e1
    rw [Bool.and_eq_true] at e1
    refine ⟨_, frG_in, Prod.ext e1.1 e2, fun t ht => ?_⟩
    have := List.all_eq_true.mp e1.2 t ht
    exact ⟨emptyTab_ok this, look_none this⟩
  keeps := fun _ _ _ ⟨K, hK, c, ht⟩ k => ⟨K, Frag.In.keeps hK k, c, fun t h => ⟨k _ _ (ht t h).1, (ht t h).2⟩⟩
theorem obsT_eq {n : Nat} {fa : List (Frag → Bool)} {fn : List He5.DefA} {tb : List (Frag → Addr)} {g : Addr → Option Obj} {s : Shared} (h : ∀ a, g a = s.heap.get? a) : obsT n fa fn tb g = (hookT n fa fn tb).obs s := by
  have eg : g = s.heap.get? := funext h
  rw [eg] <;> rfl
end HKT
namespace Pr
open PySem PySem.Spec PyProof.Rows L2 DL
def topS (i : Nat) : Stmt := PySem.Challenge.pw_rowdominoes_k46_notation.main.body.getD i (.Pass ⟨0, 0, 0, 0⟩)
abbrev s_InvalidRow_init : Stmt := inClass (topS 3) 0
abbrev n_InvalidRow_init : List Str := ["self", "index"]
theorem sc_InvalidRow_init : FnScope n_InvalidRow_init ["self", "index"] (defScope s_InvalidRow_init) := ⟨rfl, rfl, rfl, by decide +kernel, rfl, by decide +kernel, by decide +kernel⟩
abbrev s_NotationError_init : Stmt := inClass (topS 11) 0
abbrev n_NotationError_init : List Str := ["self", "line", "word"]
theorem sc_NotationError_init : FnScope n_NotationError_init ["self", "line", "word"] (defScope s_NotationError_init) := ⟨rfl, rfl, rfl, by decide +kernel, rfl, by decide +kernel, by decide +kernel⟩
abbrev s_is_integer : Stmt := topS 21
abbrev n_is_integer : List Str := ["value", "low", "high"]
theorem sc_is_integer : FnScope n_is_integer ["value", "low", "high"] (defScope s_is_integer) := ⟨rfl, rfl, rfl, by decide +kernel, rfl, by decide +kernel, by decide +kernel⟩
abbrev s_is_stone : Stmt := topS 22
abbrev n_is_stone : List Str := ["value", "least", "place", "height"]
theorem sc_is_stone : FnScope n_is_stone ["value", "least"] (defScope s_is_stone) := ⟨rfl, rfl, rfl, by decide +kernel, rfl, by decide +kernel, by decide +kernel⟩
abbrev s_Row_init : Stmt := inClass (topS 24) 1
abbrev n_Row_init : List Str := ["self", "stones", "least", "index", "stone"]
theorem sc_Row_init : FnScope n_Row_init ["self", "stones"] (defScope s_Row_init) := ⟨rfl, rfl, rfl, by decide +kernel, rfl, by decide +kernel, by decide +kernel⟩
abbrev s_Row_stones : Stmt := inClass (topS 24) 3
abbrev n_Row_stones : List Str := ["self"]
theorem sc_Row_stones : FnScope n_Row_stones ["self"] (defScope s_Row_stones) := ⟨rfl, rfl, rfl, by decide +kernel, rfl, by decide +kernel, by decide +kernel⟩
abbrev s_Row_len : Stmt := inClass (topS 24) 5
abbrev n_Row_len : List Str := ["self"]
theorem sc_Row_len : FnScope n_Row_len ["self"] (defScope s_Row_len) := ⟨rfl, rfl, rfl, by decide +kernel, rfl, by decide +kernel, by decide +kernel⟩
abbrev s_Row_add : Stmt := inClass (topS 24) 11
abbrev n_Row_add : List Str := ["self", "other"]
theorem sc_Row_add : FnScope n_Row_add ["self", "other"] (defScope s_Row_add) := ⟨rfl, rfl, rfl, by decide +kernel, rfl, by decide +kernel, by decide +kernel⟩
abbrev s_row_of : Stmt := topS 25
abbrev n_row_of : List Str := ["stones"]
theorem sc_row_of : FnScope n_row_of ["stones"] (defScope s_row_of) := ⟨rfl, rfl, rfl, by decide +kernel, rfl, by decide +kernel, by decide +kernel⟩
abbrev s_is_number : Stmt := topS 35
abbrev n_is_number : List Str := ["word", "digit"]
theorem sc_is_number : FnScope n_is_number ["word"] (defScope s_is_number) := ⟨rfl, rfl, rfl, by decide +kernel, rfl, by decide +kernel, by decide +kernel⟩
abbrev s_format_row : Stmt := topS 36
abbrev n_format_row : List Str := ["row", "place", "height"]
theorem sc_format_row : FnScope n_format_row ["row"] (defScope s_format_row) := ⟨rfl, rfl, rfl, by decide +kernel, rfl, by decide +kernel, by decide +kernel⟩
abbrev s_stone_of : Stmt := topS 37
abbrev n_stone_of : List Str := ["number", "line", "words", "place", "is_good"]
theorem sc_stone_of : FnScope n_stone_of ["number", "line"] (defScope s_stone_of) := ⟨rfl, rfl, rfl, by decide +kernel, rfl, by decide +kernel, by decide +kernel⟩
abbrev s_parse_row : Stmt := topS 38
abbrev n_parse_row : List Str := ["text", "lines", "number", "line"]
theorem sc_parse_row : FnScope n_parse_row ["text"] (defScope s_parse_row) := ⟨rfl, rfl, rfl, by decide +kernel, rfl, by decide +kernel, by decide +kernel⟩
abbrev s_law_dice : Stmt := topS 40
abbrev n_law_dice : List Str := ["_law_script", "_law_mixed", "_law_cell"]
theorem sc_law_dice : FnScope n_law_dice ["_law_script"] (defScope s_law_dice) := ⟨rfl, rfl, rfl, by decide +kernel, rfl, by decide +kernel, by decide +kernel⟩
abbrev s_law_next : Stmt := topS 41
abbrev n_law_next : List Str := ["_law_dice_here", "_law_many", "_law_found", "_law_cell"]
theorem sc_law_next : FnScope n_law_next ["_law_dice_here", "_law_many"] (defScope s_law_next) := ⟨rfl, rfl, rfl, by decide +kernel, rfl, by decide +kernel, by decide +kernel⟩
abbrev s_law_pick : Stmt := topS 42
abbrev n_law_pick : List Str := ["_law_d", "_law_some"]
theorem sc_law_pick : FnScope n_law_pick ["_law_d", "_law_some"] (defScope s_law_pick) := ⟨rfl, rfl, rfl, by decide +kernel, rfl, by decide +kernel, by decide +kernel⟩
abbrev s_law_told : Stmt := topS 43
abbrev n_law_told : List Str := ["_law_work", "e", "_law_some", "_law_terms", "_law_k"]
theorem sc_law_told : FnScope n_law_told ["_law_work"] (defScope s_law_told) := ⟨rfl, rfl, rfl, by decide +kernel, rfl, by decide +kernel, by decide +kernel⟩
abbrev s_law_stones : Stmt := topS 44
abbrev n_law_stones : List Str := ["_law_d", "_law_most", "_law_found", "_law_place", "_law_k"]
theorem sc_law_stones : FnScope n_law_stones ["_law_d", "_law_most"] (defScope s_law_stones) := ⟨rfl, rfl, rfl, by decide +kernel, rfl, by decide +kernel, by decide +kernel⟩
abbrev s_law_made : Stmt := topS 45
abbrev n_law_made : List Str := ["_law_stones_here", "_law_row", "_law_stone"]
theorem sc_law_made : FnScope n_law_made ["_law_stones_here"] (defScope s_law_made) := ⟨rfl, rfl, rfl, by decide +kernel, rfl, by decide +kernel, by decide +kernel⟩
abbrev s_law_figures : Stmt := topS 46
abbrev n_law_figures : List Str := ["_law_word", "_law_c"]
theorem sc_law_figures : FnScope n_law_figures ["_law_word"] (defScope s_law_figures) := ⟨rfl, rfl, rfl, by decide +kernel, rfl, by decide +kernel, by decide +kernel⟩
abbrev s_law_parsed : Stmt := topS 47
abbrev n_law_parsed : List Str := ["_law_lines", "_law_k", "_law_j", "_law_word", "_law_good", "_law_least", "_law_found", "_law_place", "_law_height"]
theorem sc_law_parsed : FnScope n_law_parsed ["_law_lines"] (defScope s_law_parsed) := ⟨rfl, rfl, rfl, by decide +kernel, rfl, by decide +kernel, by decide +kernel⟩
abbrev s_law : Stmt := topS 48
abbrev n_law : List Str := ["_law_script", "_law_d", "_law_turn", "_law_stones_here", "_law_lines", "_law_text", "_law_k", "_law_j", "_law_pick_here", "_law_odd", "_law_due", "_law_many", "_law_found", "_law_place", "_law_height", "_law_line"]
theorem sc_law : FnScope n_law ["_law_script"] (defScope s_law) := ⟨rfl, rfl, rfl, by decide +kernel, rfl, by decide +kernel, by decide +kernel⟩
def xcL : List Str := ["InvalidRow", "NotationError"]
def xaL : List Str := ["StoneError", "InvalidRow", "UnknownStone", "InvalidSide", "InvalidNumber", "NotStanding", "NotLying", "InvalidOperation", "Contradiction", "NotationError", "InvalidCount", "DecodeError"]
def xfL : List Str := ["index", "stone", "line", "word", "offset"]
def kiL : List (Str × Str × Bool) := xcL.flatMap fun a => xaL.map fun b => (a, b, a == b || b == "StoneError")
/-- the defs that make lambdas -/
def ltL : List Str := ["law"]
abbrev AllTB (base : Heap) (mg : Str → Option Value) (K : PySem.W.Frag) : Prop := ∀ g ∈ ltL, LamX.TabB base mg (codeA K (He.ga K g)) (tabA K (He.ga K g))
def h_InvalidRow_init : He5.DefA := ⟨fun K => He.ma K (He.ga K "InvalidRow") "__init__", "__init__", "InvalidRow.__init__", defArgs s_InvalidRow_init, defBody s_InvalidRow_init, defScope s_InvalidRow_init, [], []⟩
def h_NotationError_init : He5.DefA := ⟨fun K => He.ma K (He.ga K "NotationError") "__init__", "__init__", "NotationError.__init__", defArgs s_NotationError_init, defBody s_NotationError_init, defScope s_NotationError_init, [], []⟩
def h_is_integer : He5.DefA := ⟨fun K => He.ga K "is_integer", "is_integer", "is_integer", defArgs s_is_integer, defBody s_is_integer, defScope s_is_integer, [], []⟩
def h_is_stone : He5.DefA := ⟨fun K => He.ga K "is_stone", "is_stone", "is_stone", defArgs s_is_stone, defBody s_is_stone, defScope s_is_stone, [], []⟩
def h_Row_init : He5.DefA := ⟨fun K => He.ma K (He.ga K "Row") "__init__", "__init__", "Row.__init__", defArgs s_Row_init, defBody s_Row_init, defScope s_Row_init, [], []⟩
def h_Row_stones : He5.DefA := ⟨fun K => HK.pg K (He.ga K "Row") "stones", "stones", "Row.stones", defArgs s_Row_stones, defBody s_Row_stones, defScope s_Row_stones, [], []⟩
def h_Row_len : He5.DefA := ⟨fun K => He.ma K (He.ga K "Row") "__len__", "__len__", "Row.__len__", defArgs s_Row_len, defBody s_Row_len, defScope s_Row_len, [], []⟩
def h_Row_add : He5.DefA := ⟨fun K => He.ma K (He.ga K "Row") "__add__", "__add__", "Row.__add__", defArgs s_Row_add, defBody s_Row_add, defScope s_Row_add, [], []⟩
def h_row_of : He5.DefA := ⟨fun K => He.ga K "row_of", "row_of", "row_of", defArgs s_row_of, defBody s_row_of, defScope s_row_of, [], []⟩
def h_is_number : He5.DefA := ⟨fun K => He.ga K "is_number", "is_number", "is_number", defArgs s_is_number, defBody s_is_number, defScope s_is_number, [], []⟩
def h_format_row : He5.DefA := ⟨fun K => He.ga K "format_row", "format_row", "format_row", defArgs s_format_row, defBody s_format_row, defScope s_format_row, [], []⟩
def h_stone_of : He5.DefA := ⟨fun K => He.ga K "stone_of", "stone_of", "stone_of", defArgs s_stone_of, defBody s_stone_of, defScope s_stone_of, [], []⟩
def h_parse_row : He5.DefA := ⟨fun K => He.ga K "parse_row", "parse_row", "parse_row", defArgs s_parse_row, defBody s_parse_row, defScope s_parse_row, [], []⟩
def h_law_dice : He5.DefA := ⟨fun K => He.ga K "_law_dice", "_law_dice", "_law_dice", defArgs s_law_dice, defBody s_law_dice, defScope s_law_dice, [], []⟩
def h_law_next : He5.DefA := ⟨fun K => He.ga K "_law_next", "_law_next", "_law_next", defArgs s_law_next, defBody s_law_next, defScope s_law_next, [], []⟩
def h_law_pick : He5.DefA := ⟨fun K => He.ga K "_law_pick", "_law_pick", "_law_pick", defArgs s_law_pick, defBody s_law_pick, defScope s_law_pick, [], []⟩
def h_law_told : He5.DefA := ⟨fun K => He.ga K "_law_told", "_law_told", "_law_told", defArgs s_law_told, defBody s_law_told, defScope s_law_told, [], []⟩
def h_law_stones : He5.DefA := ⟨fun K => He.ga K "_law_stones", "_law_stones", "_law_stones", defArgs s_law_stones, defBody s_law_stones, defScope s_law_stones, [], []⟩
def h_law_made : He5.DefA := ⟨fun K => He.ga K "_law_made", "_law_made", "_law_made", defArgs s_law_made, defBody s_law_made, defScope s_law_made, [], []⟩
def h_law_figures : He5.DefA := ⟨fun K => He.ga K "_law_figures", "_law_figures", "_law_figures", defArgs s_law_figures, defBody s_law_figures, defScope s_law_figures, [], []⟩
def h_law_parsed : He5.DefA := ⟨fun K => He.ga K "_law_parsed", "_law_parsed", "_law_parsed", defArgs s_law_parsed, defBody s_law_parsed, defScope s_law_parsed, [], []⟩
def h_law : He5.DefA := ⟨fun K => He.ga K "law", "law", "law", defArgs s_law, defBody s_law, defScope s_law, [], []⟩
def hfn : List He5.DefA := [h_InvalidRow_init, h_NotationError_init, h_is_integer, h_is_stone, h_Row_init, h_Row_stones, h_Row_len, h_Row_add, h_row_of, h_is_number, h_format_row, h_stone_of, h_parse_row, h_law_dice, h_law_next, h_law_pick, h_law_told, h_law_stones, h_law_made, h_law_figures, h_law_parsed, h_law]
def hfa : List (PySem.W.Frag → Bool) := [
  (fun K => (He.Fa.free "len").ok K),
  (fun K => (He.Fa.free "range").ok K),
  (fun K => (He.Fa.free "max").ok K),
  (fun K => (He.Fa.free "int").ok K),
  (fun K => (He.Fa.free "isinstance").ok K),
  (fun K => (He.Fa.free "enumerate").ok K),
  (fun K => (He.Fa.free "tuple").ok K),
  (fun K => (He.Fa.free "list").ok K),
  (fun K => (He.Fa.free "str").ok K),
  (fun K => (He.Fa.free "bool").ok K),
  (fun K => (He.Fa.free "all").ok K),
  (fun K => (He.Fa.free "TypeError").ok K),
  (fun K => (He.Fa.free "ValueError").ok K),
  (fun K => (He.Fa.str "LEFT" "left").ok K),
  (fun K => (He.Fa.str "RIGHT" "right").ok K),
  (fun K => (He.Fa.glo "SIDES").ok K),
  (fun K => He.tupB K "SIDES" [.str "left", .str "right"]),
  (fun K => (He.Fa.int "MAX_STONES_rows" 40).ok K),
  (fun K => (He.Fa.int "MAX_PLACE" 1000000000).ok K),
  (fun K => (He.Fa.int "MAX_HEIGHT" 1000000000).ok K),
  (fun K => (He.Fa.str "WORD" "stone").ok K),
  (fun K => (He.Fa.str "DIGITS" "0123456789").ok K),
  (fun K => (He.Fa.int "MAX_DIGITS" 10).ok K),
  (fun K => (He.Fa.int "WORDS" 3).ok K),
  (fun K => (He.Fa.glo "is_integer").ok K),
  (fun K => (He.Fa.glo "is_stone").ok K),
  (fun K => (He.Fa.meth "Row" "__init__").ok K),
  (fun K => HK.propB K (He.ga K "Row") "stones"),
  (fun K => (He.Fa.meth "Row" "__len__").ok K),
  (fun K => (He.Fa.meth "Row" "__add__").ok K),
  (fun K => (He.Fa.glo "row_of").ok K),
  (fun K => (He.Fa.glo "is_number").ok K),
  (fun K => (He.Fa.glo "format_row").ok K),
  (fun K => (He.Fa.glo "stone_of").ok K),
  (fun K => (He.Fa.glo "parse_row").ok K),
  (fun K => (He.Fa.glo "_law_dice").ok K),
  (fun K => (He.Fa.glo "_law_next").ok K),
  (fun K => (He.Fa.glo "_law_pick").ok K),
  (fun K => (He.Fa.glo "_law_told").ok K),
  (fun K => (He.Fa.glo "_law_stones").ok K),
  (fun K => (He.Fa.glo "_law_made").ok K),
  (fun K => (He.Fa.glo "_law_figures").ok K),
  (fun K => (He.Fa.glo "_law_parsed").ok K),
  (fun K => (He.Fa.glo "law").ok K),
  (fun K => (He.Fa.glo "StoneError").ok K),
  (fun K => (He.Fa.glo "InvalidRow").ok K),
  (fun K => (He.Fa.glo "UnknownStone").ok K),
  (fun K => (He.Fa.glo "InvalidSide").ok K),
  (fun K => (He.Fa.glo "InvalidNumber").ok K),
  (fun K => (He.Fa.glo "NotStanding").ok K),
  (fun K => (He.Fa.glo "NotLying").ok K),
  (fun K => (He.Fa.glo "InvalidOperation").ok K),
  (fun K => (He.Fa.glo "Contradiction").ok K),
  (fun K => (He.Fa.glo "NotationError").ok K),
  (fun K => (He.Fa.glo "InvalidCount").ok K),
  (fun K => (He.Fa.glo "DecodeError").ok K),
  (fun K => (He.Fa.glo "Row").ok K),
  (fun K => (He.Fa.cls "Row").ok K),
  (fun K => (He.Fa.mkr "Row").ok K),
  (fun K => PySem.W.selfFirst K (He.ga K "Row")),
  (fun K => neOk K (He.ga K "Row")),
  (fun K => isOk K (He.ga K "Row")),
  (fun K => shOk K (He.ga K "Row") "rshift"),
  (fun K => (He.Fa.noat "Row" "blocks").ok K),
  (fun K => xcL.all fun a => isXB K (He.ga K a)),
  (fun K => xcL.all fun a => decide (PySem.W.exmOne K (.ref (He.ga K a)) (.ref (He.ga K "StoneError")) = some true)),
  (fun K => kiL.all fun p => decide (PySem.W.kitOne K (.ref (He.ga K p.1)) (.ref (He.ga K p.2.1)) = some p.2.2)),
  (fun K => xcL.all fun a => decide (PySem.W.kitOne K (.ref (He.ga K a)) (.type "ValueError") = some true)),
  (fun K => xcL.all fun a => xfL.all fun f => decide (PySem.W.findIn K (.ref (He.ga K a)) f = some none)),
  (fun K => baseB K (He.ga K "StoneError")),
  (fun K => oexB K (He.ga K "InvalidRow")),
  (fun K => decide (PySem.W.findIn K (.ref (He.ga K "InvalidRow")) "__init__" = some (some (.ref (He.ma K (He.ga K "InvalidRow") "__init__"))))),
  (fun K => decide (PySem.W.typeIn K (.ref (He.ma K (He.ga K "InvalidRow") "__init__")) = some (.type "function"))),
  (fun K => oexB K (He.ga K "NotationError")),
  (fun K => decide (PySem.W.findIn K (.ref (He.ga K "NotationError")) "__init__" = some (some (.ref (He.ma K (He.ga K "NotationError") "__init__"))))),
  (fun K => decide (PySem.W.typeIn K (.ref (He.ma K (He.ga K "NotationError") "__init__")) = some (.type "function"))),
  (fun K => ltL.all fun g => tabB K (He.ga K g)),
  (fun K => decide (ltL.map fun g => tabA K (He.ga K g)).Nodup)]
abbrev hR : PySem.W.OpenRow := PySem.W.OpenLaw.row PySem.Challenge.rw_rowdominoes_k46_notation
def htb : List (PySem.W.Frag → Addr) := ltL.map fun g K => tabA K (He.ga K g)
abbrev hhk : PySem.W.Hook := HKT.hookT 6 hfa hfn htb
def hob (s : PySem.W.SharedT) : He.AlD := HKT.obsT 6 hfa hfn htb (HandSHeadRun.getT s)
theorem hob_eq (s : PySem.W.SharedT) : hob s = hhk.obs s.abs := HKT.obsT_eq (HandSHeadRun.getT_eq s)
def hloose0 : List Str := ["_wall", "StoneError", "InvalidRow", "UnknownStone", "InvalidSide", "InvalidNumber", "NotStanding", "NotLying", "InvalidOperation", "Contradiction", "NotationError", "InvalidCount", "DecodeError", "LEFT", "RIGHT", "SIDES", "MAX_STONES_rows", "MAX_PLACE", "MAX_HEIGHT", "is_integer", "is_stone", "check_side", "Row", "row_of", "moved", "mirrored", "right_end", "run_of", "WORD", "DIGITS"]
def hloose1 : List Str := ["MAX_DIGITS", "WORDS", "is_number", "format_row", "stone_of", "parse_row", "_law_dice", "_law_next", "_law_pick", "_law_told", "_law_stones", "_law_made", "_law_figures", "_law_parsed"]
def hloose : List Str := hloose0 ++ hloose1
theorem hrun (w : World) : HandSHeadRun.RunEq hR (PySem.W.view hR.prog [48]) hhk hob 12000 hloose w := by
  intro os
  kernel_rfl
end Pr
namespace DL
open PySem PySem.Spec PyProof.Rows L2

/-! ### plain data -/
inductive D where
  | non | bl (b : Bool) | int (i : Int) | str (x : Str) | byt (b : Array UInt8)
  | lst (ds : List D) | tup (ds : List D)
  | ins (C : Addr) (ns : List Str) (ds : List D)
  | dic (ks : List Key) (ds : List D)
  | dit (ks : List (List Key)) (ds : List D)
  | ktp (ds : List D)
  | lam (i : Nat) (φ : Hp → Addr → Prop)
  | ref (a : Addr) | ty (n : String)

def Ex (H H' : Hp) : Prop := ∀ a o, H a = some o → H' a = some o
theorem Ex.refl (H : Hp) : Ex H H := fun _ _ h => h
theorem Ex.trans {H H1 H2 : Hp} (a : Ex H H1) (b : Ex H1 H2) : Ex H H2 := fun x o h => b x o (a x o h)
theorem Ex.new {H : Hp} {p : Addr} {o : HO} (h : H p = none) : Ex H (upd H p o) := fun a u e => by
  rw [upd_ne (ne_of_none e h)]; exact e
theorem Ex.mut {H H' : Hp} {p : Addr} {o : HO} (e : Ex H H') (h : H p = none) : Ex H (upd H' p o) := fun a u ha => by
  rw [upd_ne (ne_of_none ha h)]; exact e a u ha
theorem Ex.both {H H' : Hp} {p : Addr} {o : HO} (e : Ex H H') : Ex (upd H p o) (upd H' p o) := fun a u ha => by
  by_cases h : a = p
  · subst h; rw [upd_same] at ha ⊢; exact ha
  · rw [upd_ne h] at ha ⊢; exact e a u ha
theorem Ex.back {H H' : Hp} {p : Addr} (e : Ex H H') (h : H' p = none) : H p = none := by
  cases h1 : H p with
  | none => rfl
  | some o => rw [e p o h1] at h; cases h
theorem ex_rd {H H' : Hp} {a : Addr} {u : HO} (e : Ex H H') (h : Rd H a u) : Rd H' a u := by
  rcases h with h | ⟨o, h⟩
  · exact Or.inl (e a _ h)
  · exact Or.inr ⟨o, e a _ h⟩
theorem ex_l {K : PySem.W.Frag} {H H' : Hp} {a : Addr} {xs : List V} (e : Ex H H') (h : SqL K H a xs) : SqL K H' a xs := by
  rcases h with h | h
  · exact Or.inl (ex_rd e h)
  · exact Or.inr h
theorem ex_t {K : PySem.W.Frag} {H H' : Hp} {a : Addr} {xs : List V} (e : Ex H H') (h : SqT K H a xs) : SqT K H' a xs := by
  rcases h with h | h
  · exact Or.inl (ex_rd e h)
  · exact Or.inr h

mutual
/-- a value stands for data, by what the heap S holds for good -/
inductive Rp (K : PySem.W.Frag) (S : Hp) : V → D → Prop
  | non : Rp K S .non .non
  | bl (b : Bool) : Rp K S (.bl b) (.bl b)
  | int (i : Int) : Rp K S (.int i) (.int i)
  | str (x : Str) : Rp K S (.str x) (.str x)
  | byt (b : Array UInt8) : Rp K S (.byt b) (.byt b)
  | lst {a : Addr} {vs : List V} {ds : List D} : SqL K S a vs → RpAll K S vs ds → Rp K S (.ref a) (.lst ds)
  | tup {a : Addr} {vs : List V} {ds : List D} : S a = some (.tup vs) → RpAll K S vs ds → Rp K S (.ref a) (.tup ds)
  | ins {a C dx : Addr} {ns : List Str} {vs : List V} {ds : List D} : S a = some (.ins C dx (ns.zip vs)) → ns.length = vs.length → RpAll K S vs ds → Rp K S (.ref a) (.ins C ns ds)
  | dic {a : Addr} {o : Obj} {ks : List Key} {vs : List V} {ds : List D} : S a = some (.frz o (.dK (ks.zip vs))) → ks.length = vs.length → RpAll K S vs ds → Rp K S (.ref a) (.dic ks ds)
  | dit {a : Addr} {o : Obj} {ks : List (List Key)} {vs : List V} {ds : List D} : S a = some (.frz o (.dT (ks.zip vs))) → ks.length = vs.length → RpAll K S vs ds → Rp K S (.ref a) (.dit ks ds)
  | ktp {a : Addr} {vs : List V} {ds : List D} : SqT K S a vs → RpAll K S vs ds → Rp K S (.ref a) (.ktp ds)
  | lam {a : Addr} (i : Nat) {φ : Hp → Addr → Prop} : (∀ S', Ex S S' → φ S' a) → Rp K S (.ref a) (.lam i φ)
  | ref (a : Addr) : Rp K S (.ref a) (.ref a)
  | ty (n : String) : Rp K S (.ty n) (.ty n)
inductive RpAll (K : PySem.W.Frag) (S : Hp) : List V → List D → Prop
  | nil : RpAll K S [] []
  | cons {v : V} {vs : List V} {d : D} {ds : List D} : Rp K S v d → RpAll K S vs ds → RpAll K S (v :: vs) (d :: ds)
end
section
variable {K : PySem.W.Frag} {S S' : Hp}
theorem Rp.mono (e : Ex S S') {v : V} {d : D} (h : Rp K S v d) : Rp K S' v d :=
  Rp.rec (motive_1 := fun v d _ => Rp K S' v d) (motive_2 := fun vs ds _ => RpAll K S' vs ds)
    .non .bl .int .str .byt (fun q _ ih => .lst (ex_l e q) ih) (fun q _ ih => .tup (e _ _ q) ih)
    (fun q l _ ih => .ins (e _ _ q) l ih) (fun q l _ ih => .dic (e _ _ q) l ih) (fun q l _ ih => .dit (e _ _ q) l ih) (fun q _ ih => .ktp (ex_t e q) ih) (fun i _ q => .lam i fun S2 e2 => q S2 (e.trans e2)) .ref .ty .nil (fun _ _ a b => .cons a b) h
theorem RpAll.mono (e : Ex S S') : ∀ {vs : List V} {ds : List D}, RpAll K S vs ds → RpAll K S' vs ds
  | _, _, .nil => .nil
  | _, _, .cons a b => .cons (a.mono e) (RpAll.mono e b)
theorem RpAll.length : ∀ {vs : List V} {ds : List D}, RpAll K S vs ds → vs.length = ds.length
  | _, _, .nil => rfl
  | _, _, .cons _ b => by simp [b.length]
theorem RpAll.append : ∀ {vs ws : List V} {ds es : List D}, RpAll K S vs ds → RpAll K S ws es → RpAll K S (vs ++ ws) (ds ++ es)
  | _, _, _, _, .nil, h => h
  | _, _, _, _, .cons a b, h => .cons a (RpAll.append b h)
theorem RpAll.get : ∀ {vs : List V} {ds : List D} {i : Nat} {v : V}, RpAll K S vs ds → vs[i]? = some v → ∃ d, ds[i]? = some d ∧ Rp K S v d
  | _, _, _, _, .nil, e => by simp at e
  | _, _, 0, _, .cons a _, e => by simp at e; subst e; exact ⟨_, rfl, a⟩
  | _, _, i + 1, _, .cons _ b, e => by
    obtain ⟨d, h1, h2⟩ := b.get (i := i) (by simpa using e)
    exact ⟨d, by simpa using h1, h2⟩
theorem RpAll.getD : ∀ {vs : List V} {ds : List D} {i : Nat} {d : D}, RpAll K S vs ds → ds[i]? = some d → ∃ v, vs[i]? = some v ∧ Rp K S v d
  | _, _, _, _, .nil, e => by simp at e
  | _, _, 0, _, .cons a _, e => by simp at e; subst e; exact ⟨_, rfl, a⟩
  | _, _, i + 1, _, .cons _ b, e => by
    obtain ⟨d, h1, h2⟩ := b.getD (i := i) (by simpa using e)
    exact ⟨d, by simpa using h1, h2⟩
theorem RpAll.drop : ∀ (n : Nat) {vs : List V} {ds : List D}, RpAll K S vs ds → RpAll K S (vs.drop n) (ds.drop n)
  | 0, _, _, h => h
  | _ + 1, _, _, .nil => .nil
  | n + 1, _, _, .cons _ b => RpAll.drop n b
theorem RpAll.take : ∀ (n : Nat) {vs : List V} {ds : List D}, RpAll K S vs ds → RpAll K S (vs.take n) (ds.take n)
  | 0, _, _, _ => .nil
  | _ + 1, _, _, .nil => .nil
  | n + 1, _, _, .cons a b => .cons a (RpAll.take n b)
theorem RpAll.reverse : ∀ {vs : List V} {ds : List D}, RpAll K S vs ds → RpAll K S vs.reverse ds.reverse
  | _, _, .nil => .nil
  | _, _, .cons a b => by
    rw [List.reverse_cons, List.reverse_cons]
    exact b.reverse.append (.cons a .nil)
theorem RpAll.set : ∀ {vs : List V} {ds : List D} (i : Nat) {v : V} {d : D}, RpAll K S vs ds → Rp K S v d → RpAll K S (vs.set i v) (ds.set i d)
  | _, _, _, _, _, .nil, _ => .nil
  | _, _, 0, _, _, .cons _ b, h => .cons h b
  | _, _, i + 1, _, _, .cons a b, h => .cons a (RpAll.set i b h)
theorem RpAll.ints : ∀ {ns : List Int} {vs : List V}, RpAll K S vs (ns.map D.int) → vs = ns.map V.int
  | [], _, h => by cases h; rfl
  | n :: ns, _, h => by
    cases h with
    | cons a b =>
      cases a
      rw [RpAll.ints b]; rfl
theorem RpAll.of_ints : ∀ (ns : List Int), RpAll K S (ns.map V.int) (ns.map D.int)
  | [] => .nil
  | n :: ns => .cons (.int n) (RpAll.of_ints ns)
theorem Rp.int_inv {v : V} {i : Int} (h : Rp K S v (.int i)) : v = .int i := by cases h; rfl
theorem Rp.bl_inv {v : V} {b : Bool} (h : Rp K S v (.bl b)) : v = .bl b := by cases h; rfl
theorem Rp.str_inv {v : V} {x : Str} (h : Rp K S v (.str x)) : v = .str x := by cases h; rfl
theorem Rp.non_inv {v : V} (h : Rp K S v .non) : v = .non := by cases h; rfl
theorem Rp.lst_inv {v : V} {ds : List D} (h : Rp K S v (.lst ds)) : ∃ a vs, v = .ref a ∧ SqL K S a vs ∧ RpAll K S vs ds := by cases h with | lst q r => exact ⟨_, _, rfl, q, r⟩
theorem Rp.tup_inv {v : V} {ds : List D} (h : Rp K S v (.tup ds)) : ∃ a vs, v = .ref a ∧ SqT K S a vs ∧ RpAll K S vs ds := by cases h with | tup q r => exact ⟨_, _, rfl, SqT.of q, r⟩
theorem Rp.ktp_inv {v : V} {ds : List D} (h : Rp K S v (.ktp ds)) : ∃ a vs, v = .ref a ∧ SqT K S a vs ∧ RpAll K S vs ds := by cases h with | ktp q r => exact ⟨_, _, rfl, q, r⟩
theorem Rp.tup_at {v : V} {ds : List D} (h : Rp K S v (.tup ds)) : ∃ a vs, v = .ref a ∧ S a = some (.tup vs) ∧ RpAll K S vs ds := by cases h with | tup q r => exact ⟨_, _, rfl, q, r⟩
theorem Rp.ins_inv {v : V} {C : Addr} {ns : List Str} {ds : List D} (h : Rp K S v (.ins C ns ds)) : ∃ a dx vs, v = .ref a ∧ S a = some (.ins C dx (ns.zip vs)) ∧ ns.length = vs.length ∧ RpAll K S vs ds := by
  cases h with | ins q l r => exact ⟨_, _, _, rfl, q, l, r⟩
end

/-! ### a slot's value: data, or an object that is ours to change -/
inductive VD where
  | d (x : D)
  | loc (n : Nat)
/-- what an object of ours holds -/
inductive OD where
  | lst (ds : List D)
  | dic (ks : List Key) (ds : List D)
  | dit (ks : List (List Key)) (ds : List D)
  | ins (C : Addr) (ns : List Str) (xs : List VD)
  /-- the table of code objects at P -/
  | tb (P : Addr) (q : Str)
structure Env where
  /-- how many of the objects are the caller's -/
  m : Nat
  sl : List (Option VD)
  ow : List (Option OD)

inductive Rv (K : PySem.W.Frag) (S : Hp) (ad : List Addr) : V → VD → Prop
  | d {v : V} {x : D} : Rp K S v x → Rv K S ad v (.d x)
  | loc {n : Nat} {l : Addr} : ad[n]? = some l → Rv K S ad (.ref l) (.loc n)
inductive RvAll (K : PySem.W.Frag) (S : Hp) (ad : List Addr) : List V → List VD → Prop
  | nil : RvAll K S ad [] []
  | cons {v : V} {vs : List V} {x : VD} {xs : List VD} : Rv K S ad v x → RvAll K S ad vs xs → RvAll K S ad (v :: vs) (x :: xs)
/-- a table whose code objects stand for good -/
def TbOk (S : Hp) (ps : Array Value) (q : Str) : Prop := TriplesOk ps.toList ∧ ∀ (pos : Pos) (cv : Value), codeAmong pos ps.toList = some cv → ∃ c, cv = .ref c ∧ S c = some (LamX.CodeO c q)
def OR (K : PySem.W.Frag) (S : Hp) (ad : List Addr) (l : Addr) : HO → OD → Prop
  | .lst vs, .lst ds => RpAll K S vs ds
  | .dK kvs, .dic ks ds => ∃ vs, kvs = ks.zip vs ∧ ks.length = vs.length ∧ RpAll K S vs ds
  | .dT kvs, .dit ks ds => ∃ vs, kvs = ks.zip vs ∧ ks.length = vs.length ∧ RpAll K S vs ds
  | .ins C _ fs, .ins C' ns xs => C = C' ∧ ∃ vs, fs = ns.zip vs ∧ ns.length = vs.length ∧ RvAll K S ad vs xs
  | .tbl ps, .tb P q => l = P ∧ TbOk S ps q
  | _, _ => False
/-- the state moves on: S grows, new objects of ours come behind -/
structure Step (S : Hp) (ad : List Addr) (S' : Hp) (ad' : List Addr) : Prop where
  s : Ex S S'
  a : ∃ more, ad' = ad ++ more
theorem Step.refl (S : Hp) (ad : List Addr) : Step S ad S ad := ⟨.refl _, [], by simp⟩
theorem Step.trans {S S1 S2 : Hp} {ad ad1 ad2 : List Addr} (h : Step S ad S1 ad1) (h' : Step S1 ad1 S2 ad2) : Step S ad S2 ad2 := by
  obtain ⟨m1, e1⟩ := h.a
  obtain ⟨m2, e2⟩ := h'.a
  exact ⟨h.s.trans h'.s, m1 ++ m2, by rw [e2, e1, List.append_assoc]⟩
theorem Step.get {S S1 : Hp} {ad ad1 : List Addr} (h : Step S ad S1 ad1) {n : Nat} {l : Addr} (e : ad[n]? = some l) : ad1[n]? = some l := by
  obtain ⟨m1, e1⟩ := h.a
  rw [e1, List.getElem?_append_left (List.getElem?_eq_some_iff.mp e).1]; exact e
section
variable {K : PySem.W.Frag} {S S' : Hp} {ad ad' : List Addr}
theorem Rv.mono (e : Step S ad S' ad') : ∀ {v : V} {x : VD}, Rv K S ad v x → Rv K S' ad' v x
  | _, _, .d h => .d (h.mono e.s)
  | _, _, .loc h => .loc (e.get h)
theorem RvAll.mono (e : Step S ad S' ad') : ∀ {vs : List V} {xs : List VD}, RvAll K S ad vs xs → RvAll K S' ad' vs xs
  | _, _, .nil => .nil
  | _, _, .cons a b => .cons (a.mono e) (RvAll.mono e b)
theorem RvAll.length : ∀ {vs : List V} {xs : List VD}, RvAll K S ad vs xs → vs.length = xs.length
  | _, _, .nil => rfl
  | _, _, .cons _ b => by simp [b.length]
theorem RvAll.get : ∀ {vs : List V} {xs : List VD} {i : Nat} {x : VD}, RvAll K S ad vs xs → xs[i]? = some x → ∃ v, vs[i]? = some v ∧ Rv K S ad v x
  | _, _, _, _, .nil, e => by simp at e
  | _, _, 0, _, .cons a _, e => by simp at e; subst e; exact ⟨_, rfl, a⟩
  | _, _, i + 1, _, .cons _ b, e => by
    obtain ⟨d, h1, h2⟩ := b.get (i := i) (by simpa using e)
    exact ⟨d, by simpa using h1, h2⟩
theorem TbOk.mono {ps : Array Value} {q : Str} (e : Ex S S') (h : TbOk S ps q) : TbOk S' ps q := ⟨h.1, fun pos cv z => by
  obtain ⟨c, e1, e2⟩ := h.2 pos cv z
  exact ⟨c, e1, e _ _ e2⟩⟩
theorem OR.mono {l : Addr} (e : Step S ad S' ad') {ho : HO} {o : OD} (h : OR K S ad l ho o) : OR K S' ad' l ho o := by
  cases ho <;> cases o <;> first | exact h.elim | skip
  · exact RpAll.mono e.s h
  · obtain ⟨vs, h1, h2, h3⟩ := h; exact ⟨vs, h1, h2, h3.mono e.s⟩
  · obtain ⟨vs, h1, h2, h3⟩ := h; exact ⟨vs, h1, h2, h3.mono e.s⟩
  · obtain ⟨h0, vs, h1, h2, h3⟩ := h; exact ⟨h0, vs, h1, h2, h3.mono e⟩
  · exact ⟨h.1, h.2.mono e.s⟩
theorem RvAll.of_d : ∀ {vs : List V} {ds : List D}, RpAll K S vs ds → RvAll K S ad vs (ds.map VD.d)
  | _, _, .nil => .nil
  | _, _, .cons a b => .cons (.d a) (RvAll.of_d b)
end

/-- from (S0, H0) to (S, H): only the objects at M and new ones changed; S took up new ones alone -/
structure Grow (M : List Addr) (S0 H0 S H : Hp) : Prop where
  s : Ex S0 S
  sh : Ex S H
  h : ∀ a o, H0 a = some o → a ∉ M → H a = some o
  n : ∀ a, S0 a = none → H0 a ≠ none → (∀ xs, H0 a ≠ some (.tup xs)) → S a = none
structure Fr where
  M : List Addr
  S : Hp
  H : Hp
structure Rel (K : PySem.W.Frag) (fr : Fr) (ρ : Env) (σ : L2.St) (S H : Hp) (ad : List Addr) : Prop where
  grow : Grow fr.M fr.S fr.H S H
  slots : ∀ (i : Nat) x, ρ.sl[i]? = some (some x) → ∃ v, σ[i]? = some (some v) ∧ Rv K S ad v x
  own : ∀ (n : Nat) o, ρ.ow[n]? = some (some o) → ∃ l ho, ad[n]? = some l ∧ S l = none ∧ H l = some ho ∧ OR K S ad l ho o ∧ (ρ.m ≤ n → fr.H l = none)
  mm : fr.M.length = ρ.m ∧ ad.take ρ.m = fr.M
  nd : ad.Nodup
  len : ρ.sl.length = σ.length
  al : ad.length = ρ.ow.length
  ml : ∀ n, n < ρ.m → ∃ o, ρ.ow[n]? = some (some o)
  lv : ∀ l ∈ ad, H l ≠ none
theorem nodup_ixA {l : List Addr} (hN : l.Nodup) {i j : Nat} {x : Addr} (a : l[i]? = some x) (b : l[j]? = some x) : i = j := by
  obtain ⟨h1, e1⟩ := List.getElem?_eq_some_iff.mp a
  obtain ⟨h2, e2⟩ := List.getElem?_eq_some_iff.mp b
  exact (List.getElem_inj hN).mp (e1.trans e2.symm)
section
variable {K : PySem.W.Frag} {fr : Fr} {ρ : Env} {σ : L2.St} {S H : Hp} {ad : List Addr}
theorem Rel.inM (R : Rel K fr ρ σ S H ad) {n : Nat} {l : Addr} (e : ad[n]? = some l) (hn : n < ρ.m) : l ∈ fr.M := by
  rw [← R.mm.2]
  have : (ad.take ρ.m)[n]? = some l := by rw [List.getElem?_take_of_lt hn]; exact e
  exact List.mem_of_getElem? this
theorem Rel.atM (R : Rel K fr ρ σ S H ad) {l : Addr} (h : l ∈ fr.M) : ∃ n o ho, n < ρ.m ∧ ad[n]? = some l ∧ ρ.ow[n]? = some (some o) ∧ S l = none ∧ H l = some ho := by
  rw [← R.mm.2] at h
  obtain ⟨j, hj⟩ := List.getElem?_of_mem h
  have hlt := (List.getElem?_eq_some_iff.mp hj).1
  rw [List.length_take] at hlt
  have hj2 : ad[j]? = some l := by
    rw [List.getElem?_take_of_lt (by omega)] at hj; exact hj
  obtain ⟨o, ho⟩ := R.ml j (by omega)
  obtain ⟨l', u, e1, e2, e3, _⟩ := R.own j o ho
  rw [hj2] at e1; cases e1
  exact ⟨j, o, u, by omega, hj2, ho, e2, e3⟩
/-- what stood at the entry stands -/
theorem Rel.old (R : Rel K fr ρ σ S H ad) {a : Addr} (h : fr.H a ≠ none) : H a ≠ none := fun z => by
  by_cases hm : a ∈ fr.M
  · obtain ⟨_, _, _, _, _, _, _, e⟩ := R.atM hm
    rw [z] at e; cases e
  · cases q : fr.H a with
    | none => exact h q
    | some u => rw [R.grow.h a u q hm] at z; cases z
theorem _root_.DL.upd_some {H : Hp} {p a : Addr} {o : HO} (h : H a ≠ none) : upd H p o a ≠ none := by
  by_cases e : a = p
  · subst e; rw [upd_same]; simp
  · rw [upd_ne e]; exact h
theorem OR.ntup {l : Addr} {xs : List V} {o : OD} (h : OR K S ad l (.tup xs) o) : False := by cases o <;> exact h.elim
theorem Rel.ntup (R : Rel K fr ρ σ S H ad) {a : Addr} (h2 : fr.H a ≠ none) (h3 : ∀ xs, fr.H a ≠ some (.tup xs)) (xs : List V) : H a ≠ some (.tup xs) := fun e => by
  by_cases hM : a ∈ fr.M
  · obtain ⟨n, o, ho, h4, h5, h6, _, h7⟩ := R.atM hM
    obtain ⟨l, ho', f1, _, f3, f4, _⟩ := R.own n o h6
    rw [h5] at f1; cases f1
    rw [e] at f3; cases f3
    exact f4.ntup
  · cases q : fr.H a with
    | none => exact h2 q
    | some u =>
      have := R.grow.h a u q hM
      rw [e] at this; cases this
      exact h3 xs q
/-- a tuple that is there is data -/
theorem Rel.tupS (R : Rel K fr ρ σ S H ad) {b : Addr} {xs : List V} (hb : H b = some (.tup xs)) : ∃ S', Rel K fr ρ σ S' H ad ∧ Step S ad S' ad ∧ S' b = some (.tup xs) := by
  cases q : S b with
  | some u =>
    have := R.grow.sh b u q
    rw [hb] at this; cases this
    exact ⟨S, R, .refl _ _, q⟩
  | none =>
    have hst : Step S ad (upd S b (.tup xs)) ad := ⟨.new q, [], by simp⟩
    refine ⟨_, ⟨⟨R.grow.s.trans hst.s, fun a u e => ?_, R.grow.h, fun a e hn ht => ?_⟩, fun i x e => ?_, fun n u e => ?_, R.mm, R.nd, R.len, R.al, R.ml, R.lv⟩, hst, upd_same⟩
    · by_cases h : a = b
      · subst h; rw [upd_same] at e; cases e; exact hb
      · rw [upd_ne h] at e; exact R.grow.sh a u e
    · have : a ≠ b := fun z => R.ntup hn ht xs (z ▸ hb)
      rw [upd_ne this]; exact R.grow.n a e hn ht
    · obtain ⟨v, e1, e2⟩ := R.slots i x e
      exact ⟨v, e1, e2.mono hst⟩
    · obtain ⟨l, ho, e1, e2, e3, e4, e5⟩ := R.own n u e
      have ne : l ≠ b := fun z => by rw [z, hb] at e3; cases e3; exact e4.ntup
      exact ⟨l, ho, e1, by rw [upd_ne ne]; exact e2, e3, e4.mono hst, e5⟩
/-- a new thing for good -/
theorem Rel.newS (R : Rel K fr ρ σ S H ad) {p : Addr} {o : HO} (hp : H p = none) : Rel K fr ρ σ (upd S p o) (upd H p o) ad ∧ Step S ad (upd S p o) ad := by
  have hS : S p = none := R.grow.sh.back hp
  have hst : Step S ad (upd S p o) ad := ⟨.new hS, [], by simp⟩
  refine ⟨⟨⟨R.grow.s.trans hst.s, R.grow.sh.both, fun a u e hm => ?_, fun a e hn ht => ?_⟩, fun i x e => ?_, fun n u e => ?_, R.mm, R.nd, R.len, R.al, R.ml, fun l hl => ?_⟩, hst⟩
  · have := R.grow.h a u e hm
    rw [upd_ne (ne_of_none this hp)]; exact this
  · have : a ≠ p := fun z => R.old hn (z ▸ hp)
    rw [upd_ne this]; exact R.grow.n a e hn ht
  · obtain ⟨v, e1, e2⟩ := R.slots i x e
    exact ⟨v, e1, e2.mono hst⟩
  · obtain ⟨l, ho, e1, e2, e3, e4, e5⟩ := R.own n u e
    have hl : l ≠ p := ne_of_none e3 hp
    exact ⟨l, ho, e1, by rw [upd_ne hl]; exact e2, by rw [upd_ne hl]; exact e3, e4.mono hst, e5⟩
  · exact upd_some (R.lv l hl)
/-- a new thing that is ours -/
theorem Rel.newO (R : Rel K fr ρ σ S H ad) {p : Addr} {ho : HO} {o : OD} (hp : H p = none) (h : OR K S (ad ++ [p]) p ho o) :
    Rel K fr { ρ with ow := ρ.ow ++ [some o] } σ S (upd H p ho) (ad ++ [p]) ∧ Step S ad S (ad ++ [p]) ∧ (ad ++ [p])[ρ.ow.length]? = some p := by
  have hS : S p = none := R.grow.sh.back hp
  have hst : Step S ad S (ad ++ [p]) := ⟨.refl _, [p], rfl⟩
  have hnp : p ∉ ad := fun z => R.lv p z hp
  have hm : ρ.m ≤ ad.length := by
    have := congrArg List.length R.mm.2
    rw [List.length_take, R.mm.1] at this; omega
  refine ⟨⟨⟨R.grow.s, R.grow.sh.mut hS, fun a u e hm => ?_, R.grow.n⟩, fun i x e => ?_, fun n u e => ?_, ⟨R.mm.1, ?_⟩, ?_, R.len, ?_, fun n hn => ?_, fun l hl => ?_⟩, hst, ?_⟩
  · have := R.grow.h a u e hm
    rw [upd_ne (ne_of_none this hp)]; exact this
  · obtain ⟨v, e1, e2⟩ := R.slots i x e
    exact ⟨v, e1, e2.mono hst⟩
  · by_cases hn : n < ρ.ow.length
    · have e' : ρ.ow[n]? = some (some u) := by rw [← e]; exact (List.getElem?_append_left hn).symm
      obtain ⟨l, ho', e1, e2, e3, e4, e5⟩ := R.own n u e'
      have hl : l ≠ p := ne_of_none e3 hp
      exact ⟨l, ho', hst.get e1, e2, by rw [upd_ne hl]; exact e3, e4.mono hst, e5⟩
    · have hlt := (List.getElem?_eq_some_iff.mp e).1
      simp at hlt
      have hn' : n = ρ.ow.length := by omega
      subst hn'
      have : u = o := by simpa using e.symm
      subst this
      refine ⟨p, ho, by rw [← R.al]; simp, hS, upd_same, h, fun _ => ?_⟩
      cases q : fr.H p with
      | none => rfl
      | some w => exact absurd hp (R.old (by rw [q]; simp))
  · rw [List.take_append_of_le_length hm]; exact R.mm.2
  · refine List.nodup_append.mpr ⟨R.nd, by simp, fun a ha b hb => ?_⟩
    have : b = p := by simpa using hb
    subst this
    exact fun z => hnp (z ▸ ha)
  · simp [R.al]
  · obtain ⟨o', e⟩ := R.ml n hn
    exact ⟨o', by rw [← e]; exact List.getElem?_append_left (List.getElem?_eq_some_iff.mp e).1⟩
  · rcases List.mem_append.mp hl with z | z
    · exact upd_some (R.lv l z)
    · have : l = p := by simpa using z
      subst this; rw [upd_same]; simp
  · rw [← R.al]; simp
/-- an object of ours changes -/
theorem Rel.setO (R : Rel K fr ρ σ S H ad) {n : Nat} {l : Addr} {o o' : OD} {ho : HO} (hn : ρ.ow[n]? = some (some o)) (hl : ad[n]? = some l) (h : OR K S ad l ho o') :
    Rel K fr { ρ with ow := ρ.ow.set n (some o') } σ S (upd H l ho) ad := by
  obtain ⟨l', u, e1, e2, e3, e4, e5⟩ := R.own n o hn
  rw [hl] at e1; cases e1
  have hlt := (List.getElem?_eq_some_iff.mp hn).1
  refine ⟨⟨R.grow.s, R.grow.sh.mut e2, fun a w e hm => ?_, R.grow.n⟩, R.slots, fun j w e => ?_, R.mm, R.nd, R.len, by simp [R.al], fun j hj => ?_, fun a ha => upd_some (R.lv a ha)⟩
  · have := R.grow.h a w e hm
    have ne : a ≠ l := fun z => by
      subst z
      by_cases hnm : ρ.m ≤ n
      · rw [e5 hnm] at e; cases e
      · exact hm (R.inM hl (by omega))
    rw [upd_ne ne]; exact this
  · by_cases hj : j = n
    · subst hj
      rw [List.getElem?_set_self hlt] at e
      cases e
      exact ⟨l, ho, hl, e2, upd_same, h, e5⟩
    · rw [List.getElem?_set_ne (Ne.symm hj)] at e
      obtain ⟨l2, u2, f1, f2, f3, f4, f5⟩ := R.own j w e
      have ne : l2 ≠ l := fun z => by subst z; exact hj (nodup_ixA R.nd f1 hl)
      exact ⟨l2, u2, f1, f2, by rw [upd_ne ne]; exact f3, f4, f5⟩
  · by_cases hj' : j = n
    · subst hj'; exact ⟨o', List.getElem?_set_self hlt⟩
    · obtain ⟨w, e⟩ := R.ml j hj
      exact ⟨w, by rw [List.getElem?_set_ne (Ne.symm hj')]; exact e⟩
/-- a slot is stored -/
theorem Rel.setSl (R : Rel K fr ρ σ S H ad) {i : Nat} {v : V} {x : VD} (h : Rv K S ad v x) : Rel K fr { ρ with sl := ρ.sl.set i (some x) } (σ.set i (some v)) S H ad := by
  refine ⟨R.grow, fun j y e => ?_, R.own, R.mm, R.nd, by simp [R.len], R.al, R.ml, R.lv⟩
  by_cases hj : j = i
  · subst hj
    have hlt := (List.getElem?_eq_some_iff.mp e).1
    rw [List.length_set] at hlt
    rw [List.getElem?_set_self hlt] at e
    cases e
    exact ⟨v, List.getElem?_set_self (by rw [← R.len]; exact hlt), h⟩
  · rw [List.getElem?_set_ne (Ne.symm hj)] at e
    obtain ⟨w, e1, e2⟩ := R.slots j y e
    exact ⟨w, by rw [List.getElem?_set_ne (Ne.symm hj)]; exact e1, e2⟩
/-- forgetting slots -/
theorem Rel.weak {sl' : List (Option VD)} {σ' : L2.St} (R : Rel K fr ρ σ S H ad) (hl : sl'.length = σ'.length) (h : ∀ (i : Nat) x, sl'[i]? = some (some x) → ρ.sl[i]? = some (some x) ∧ σ'[i]? = σ[i]?) : Rel K fr { ρ with sl := sl' } σ' S H ad :=
  ⟨R.grow, fun i x e => by
    obtain ⟨h1, h2⟩ := h i x e
    obtain ⟨v, e1, e2⟩ := R.slots i x h1
    exact ⟨v, h2.trans e1, e2⟩, R.own, R.mm, R.nd, hl, R.al, R.ml, R.lv⟩
end
end DL

namespace DL
open PySem PySem.Spec PyProof.Rows L2

/-! ### judgements: canonical readings -/
def tE (K : PySem.W.Frag) (ρ : Env) (x : VD) (ρ' : Env) : TE := fun σ H Q => ∃ fr S ad, Rel K fr ρ σ S H ad ∧ ∀ S' H' ad' v, Step S ad S' ad' → Rel K fr ρ' σ S' H' ad' → Rv K S' ad' v x → Q v H'
def tA (K : PySem.W.Frag) (ρ : Env) (xs : List VD) (ρ' : Env) : TA := fun σ H Q => ∃ fr S ad, Rel K fr ρ σ S H ad ∧ ∀ S' H' ad' vs, Step S ad S' ad' → Rel K fr ρ' σ S' H' ad' → RvAll K S' ad' vs xs → Q vs H'
def tT (K : PySem.W.Frag) (ρ : Env) (b : Bool) (ρ' : Env) : TT := fun σ H Q => ∃ fr S ad, Rel K fr ρ σ S H ad ∧ ∀ S' H' ad', Step S ad S' ad' → Rel K fr ρ' σ S' H' ad' → Q b H'
/-- an expression gives x and leaves ρ' -/
def ED (X : Cx) (ρ : Env) (e : Expr) (x : VD) (ρ' : Env) : Prop := PE X e (tE X.K ρ x ρ')
def AD (X : Cx) (ρ : Env) (es : List Expr) (xs : List VD) (ρ' : Env) : Prop := PA X es (tA X.K ρ xs ρ')
def TD (X : Cx) (ρ : Env) (e : Expr) (b : Bool) (ρ' : Env) : Prop := PT X e (tT X.K ρ b ρ')
def TW (X : Cx) (ρ : Env) (e : Expr) (b : Bool) (ρ' : Env) : Prop := PW X e (tT X.K ρ b ρ')
section
variable {X : Cx} {ρ ρ' ρ1 ρ2 ρ3 : Env} {e a b c : Expr} {es : List Expr} {x y z : VD} {pos : Pos}
theorem ed_of {t : TE} (h : PE X e t) (q : ∀ σ H Q, tE X.K ρ x ρ' σ H Q → t σ H Q) : ED X ρ e x ρ' := ⟨fun pins s σ H Q I hq => h.run pins s σ H Q I (q σ H Q hq)⟩
theorem td_of {t : TT} {k : Bool} (h : PT X e t) (q : ∀ σ H Q, tT X.K ρ k ρ' σ H Q → t σ H Q) : TD X ρ e k ρ' := ⟨fun pins s σ H Q I hq => h.run pins s σ H Q I (q σ H Q hq)⟩
theorem tw_of {t : TT} {k : Bool} (h : PW X e t) (q : ∀ σ H Q, tT X.K ρ k ρ' σ H Q → t σ H Q) : TW X ρ e k ρ' := ⟨fun wh pins s σ H Q I hq => h.run wh pins s σ H Q I (q σ H Q hq)⟩
theorem ad_of {t : TA} {xs : List VD} (h : PA X es t) (q : ∀ σ H Q, tA X.K ρ xs ρ' σ H Q → t σ H Q) : AD X ρ es xs ρ' := ⟨fun pos pins s σ H Q I hq => h.run pos pins s σ H Q I (q σ H Q hq)⟩
theorem TW.td {k : Bool} (h : TW X ρ e k ρ') : TD X ρ e k ρ' := PW.pt h
/-- what comes out, said otherwise -/
theorem ED.to (h : ED X ρ e x ρ1) (e1 : x = y) (e2 : ρ1 = ρ2) : ED X ρ e y ρ2 := e1 ▸ e2 ▸ h
theorem TD.to {k l : Bool} (h : TD X ρ e k ρ1) (e1 : k = l) : TD X ρ e l ρ1 := e1 ▸ h

section
variable {K : PySem.W.Frag} {S : Hp} {ad : List Addr} {v : V}
theorem Rv.dd {q : D} (h : Rv K S ad v (.d q)) : Rp K S v q := by cases h with | d h => exact h
theorem Rv.di {i : Int} (h : Rv K S ad v (.d (.int i))) : v = .int i := h.dd.int_inv
theorem Rv.db {i : Bool} (h : Rv K S ad v (.d (.bl i))) : v = .bl i := h.dd.bl_inv
theorem Rv.ds {i : Str} (h : Rv K S ad v (.d (.str i))) : v = .str i := h.dd.str_inv
theorem Rv.dl {n : Nat} (h : Rv K S ad v (.loc n)) : ∃ l, v = .ref l ∧ ad[n]? = some l := by cases h with | loc h => exact ⟨_, rfl, h⟩
end
/-! ### names, constants -/
theorem ed_var (i : Nat) {n : Str} (hs : ρ.sl[i]? = some (some x)) (hN : X.N[i]? = some n) (hv : Vis X.env.scope n) (hd : (n == ("__debug__" : Str)) = false := by decide) (hcd : (n == ("__classdict__" : Str)) = false := by decide) :
    ED X ρ (.Name n pos) x ρ := ed_of (pe_var hN hv hd hcd) fun σ H Q ⟨fr, S, ad, R, k⟩ => by
  obtain ⟨v, e1, e2⟩ := R.slots i x hs
  exact ⟨v, e1, k S H ad v (.refl _ _) R e2⟩
theorem ed_int {i : Int} {j : Nat} : ED X ρ (.Constant (.int i) j pos) (.d (.int i)) ρ := ed_of pe_int fun σ H Q ⟨fr, S, ad, R, k⟩ => k S H ad _ (.refl _ _) R (.d (.int i))
theorem ed_bl {i : Bool} {j : Nat} : ED X ρ (.Constant (.bool i) j pos) (.d (.bl i)) ρ := ed_of pe_bl fun σ H Q ⟨fr, S, ad, R, k⟩ => k S H ad _ (.refl _ _) R (.d (.bl i))
theorem ed_str {i : Str} {j : Nat} : ED X ρ (.Constant (.str i) j pos) (.d (.str i)) ρ := ed_of pe_str fun σ H Q ⟨fr, S, ad, R, k⟩ => k S H ad _ (.refl _ _) R (.d (.str i))
/-- a module's constant: an int, a text, a class .. -/
theorem ed_gint {n : Str} {i : Int} {t : Tok} (hm : X.mg n = some (.int i t)) (hg : Gl X n) (hd : (n == ("__debug__" : Str)) = false := by decide) : ED X ρ (.Name n pos) (.d (.int i)) ρ :=
  ed_of (pe_glob (v := .int i) hg hm ⟨_, rfl⟩ hd) fun σ H Q ⟨fr, S, ad, R, k⟩ => k S H ad _ (.refl _ _) R (.d (.int i))
theorem ed_gstr {n : Str} {i : Str} {t : Tok} (hm : X.mg n = some (.str i t)) (hg : Gl X n) (hd : (n == ("__debug__" : Str)) = false := by decide) : ED X ρ (.Name n pos) (.d (.str i)) ρ :=
  ed_of (pe_glob (v := .str i) hg hm ⟨_, rfl⟩ hd) fun σ H Q ⟨fr, S, ad, R, k⟩ => k S H ad _ (.refl _ _) R (.d (.str i))
theorem ed_gref {n : Str} {i : Addr} (hm : X.mg n = some (.ref i)) (hg : Gl X n) (hd : (n == ("__debug__" : Str)) = false := by decide) : ED X ρ (.Name n pos) (.d (.ref i)) ρ :=
  ed_of (pe_glob (v := .ref i) hg hm rfl hd) fun σ H Q ⟨fr, S, ad, R, k⟩ => k S H ad _ (.refl _ _) R (.d (.ref i))
/-- a built-in class as a value -/
theorem ed_bty {n : Str} {T : String} (hm : X.mg n = none) (hg : Gl X n) (hv : bootBuiltins n = some (.type T)) (hn : n ≠ "__name__" := by decide) (hd : (n == ("__debug__" : Str)) = false := by decide) : ED X ρ (.Name n pos) (.d (.ty T)) ρ :=
  ed_of (pe_bltn (v := .ty T) hg hm hv rfl hn hd) fun σ H Q ⟨fr, S, ad, R, k⟩ => k S H ad _ (.refl _ _) R (.d (.ty T))

/-! ### operators -/
/-- two values in a row -/
theorem two_ {r : R2} (σ : L2.St) (H : Hp) (Q : VK) (w : VD) (hk : tE X.K ρ w ρ2 σ H Q)
    (h : ∀ fr S ad S1 H1 ad1 v1 v2, Rel X.K fr ρ2 σ S1 H1 ad1 → Step S ad S1 ad1 → Rv X.K S1 ad1 v1 x → Rv X.K S1 ad1 v2 y → (∀ S' H' ad' v, Step S1 ad1 S' ad' → Rel X.K fr ρ2 σ S' H' ad' → Rv X.K S' ad' v w → Q v H') → r v1 v2 H1 Q) :
    tOp r (tE X.K ρ x ρ1) (tE X.K ρ1 y ρ2) σ H Q := by
  obtain ⟨fr, S, ad, R, k⟩ := hk
  refine ⟨fr, S, ad, R, fun S1 H1 ad1 v1 st1 R1 rv1 => ⟨fr, S1, ad1, R1, fun S2 H2 ad2 v2 st2 R2 rv2 => ?_⟩⟩
  exact h fr S ad S2 H2 ad2 v1 v2 R2 (st1.trans st2) (rv1.mono st2) rv2 fun S' H' ad' v st => k S' H' ad' v ((st1.trans st2).trans st)
theorem ed_binI {op : Operator} {C : Int → Int → Prop} {g : Int → Int → Int} (ho : OpR X (binaryOp op) (rI C fun i j => .int (g i j))) {i j : Int} (ha : ED X ρ a (.d (.int i)) ρ1) (hb : ED X ρ1 b (.d (.int j)) ρ2) (hc : C i j) :
    ED X ρ (.BinOp a op b pos) (.d (.int (g i j))) ρ2 := ed_of (pe_op ho ha hb) fun σ H Q hk => two_ σ H Q _ hk fun fr S ad S1 H1 ad1 v1 v2 R st r1 r2 k => by
  rw [r1.di, r2.di]; exact ⟨i, j, rfl, rfl, hc, k S1 H1 ad1 _ (.refl _ _) R (.d (.int _))⟩
theorem ed_binI0 {op : Operator} {g : Int → Int → Int} (ho : OpR X (binaryOp op) (rI0 fun i j => .int (g i j))) {i j : Int} (ha : ED X ρ a (.d (.int i)) ρ1) (hb : ED X ρ1 b (.d (.int j)) ρ2) :
    ED X ρ (.BinOp a op b pos) (.d (.int (g i j))) ρ2 := ed_of (pe_op ho ha hb) fun σ H Q hk => two_ σ H Q _ hk fun fr S ad S1 H1 ad1 v1 v2 R st r1 r2 k => by
  rw [r1.di, r2.di]; exact ⟨i, j, rfl, rfl, k S1 H1 ad1 _ (.refl _ _) R (.d (.int _))⟩
theorem ed_add {i j : Int} (ha : ED X ρ a (.d (.int i)) ρ1) (hb : ED X ρ1 b (.d (.int j)) ρ2) : ED X ρ (.BinOp a .Add b pos) (.d (.int (i + j))) ρ2 := ed_binI0 (g := fun i j => i + j) op_add ha hb
theorem ed_sub {i j : Int} (ha : ED X ρ a (.d (.int i)) ρ1) (hb : ED X ρ1 b (.d (.int j)) ρ2) : ED X ρ (.BinOp a .Sub b pos) (.d (.int (i - j))) ρ2 := ed_binI0 (g := fun i j => i - j) op_sub ha hb
theorem ed_mul {i j : Int} (ha : ED X ρ a (.d (.int i)) ρ1) (hb : ED X ρ1 b (.d (.int j)) ρ2) (hc : CMul i j) : ED X ρ (.BinOp a .Mult b pos) (.d (.int (i * j))) ρ2 := ed_binI (g := fun i j => i * j) op_mul ha hb hc
theorem ed_mod {i j : Int} (ha : ED X ρ a (.d (.int i)) ρ1) (hb : ED X ρ1 b (.d (.int j)) ρ2) (hc : 0 < j) : ED X ρ (.BinOp a .Mod b pos) (.d (.int (i % j))) ρ2 := ed_binI (C := fun _ j => 0 < j) (g := fun i j => i % j) op_mod ha hb hc
theorem ed_fdiv {i j : Int} (ha : ED X ρ a (.d (.int i)) ρ1) (hb : ED X ρ1 b (.d (.int j)) ρ2) (hc : CDiv i j) : ED X ρ (.BinOp a .FloorDiv b pos) (.d (.int (i / j))) ρ2 := ed_binI (g := fun i j => i / j) op_fdiv ha hb hc
theorem ed_pow {i j : Int} (ha : ED X ρ a (.d (.int i)) ρ1) (hb : ED X ρ1 b (.d (.int j)) ρ2) (hc : CPow i j) : ED X ρ (.BinOp a .Pow b pos) (.d (.int (i ^ j.toNat))) ρ2 := ed_binI (g := fun i j => i ^ j.toNat) op_pow ha hb hc
/-- comparisons of two ints -/
theorem ed_cmpI {op : CmpOp} {g : Int → Int → Bool} (ho : OpR X (compareOp op) (rI0 fun i j => .bl (g i j))) (hm : behindInMarks op b = false) {i j : Int} (ha : ED X ρ a (.d (.int i)) ρ1) (hb : ED X ρ1 b (.d (.int j)) ρ2) :
    ED X ρ (.Compare a [op] [b] pos) (.d (.bl (g i j))) ρ2 := ed_of (pe_cmpR ho ha hb hm) fun σ H Q hk => two_ σ H Q _ hk fun fr S ad S1 H1 ad1 v1 v2 R st r1 r2 k => by
  rw [r1.di, r2.di]; exact ⟨i, j, rfl, rfl, k S1 H1 ad1 _ (.refl _ _) R (.d (.bl _))⟩
theorem td_two {r : R2} (σ : L2.St) (H : Hp) (Q : Bool → Hp → Prop) (k0 : Bool) (hk : tT X.K ρ k0 ρ2 σ H Q)
    (h : ∀ fr S ad S1 H1 ad1 v1 v2, Rel X.K fr ρ2 σ S1 H1 ad1 → Step S ad S1 ad1 → Rv X.K S1 ad1 v1 x → Rv X.K S1 ad1 v2 y → ∀ Q' : VK, (∀ S' H' ad', Step S1 ad1 S' ad' → Rel X.K fr ρ2 σ S' H' ad' → Q' (.bl k0) H') → r v1 v2 H1 Q') :
    tTest (tOp r (tE X.K ρ x ρ1) (tE X.K ρ1 y ρ2)) σ H Q := by
  obtain ⟨fr, S, ad, R, k⟩ := hk
  refine ⟨fr, S, ad, R, fun S1 H1 ad1 v1 st1 R1 rv1 => ⟨fr, S1, ad1, R1, fun S2 H2 ad2 v2 st2 R2 rv2 => ?_⟩⟩
  exact h fr S ad S2 H2 ad2 v1 v2 R2 (st1.trans st2) (rv1.mono st2) rv2 _ fun S' H' ad' st R' => ⟨k0, rfl, k S' H' ad' ((st1.trans st2).trans st) R'⟩
/-- an expression of True or False as a test -/
theorem td_val {k : Bool} (h : ED X ρ e (.d (.bl k)) ρ1) (he : ∀ whole, isTrue e X.env whole = (do let v ← whole; standAt e.pos; holding [v] (truthy v)) := by intro _; rfl) : TD X ρ e k ρ1 :=
  td_of (pt_val h he) fun σ H Q ⟨fr, S, ad, R, k'⟩ => ⟨fr, S, ad, R, fun S1 H1 ad1 v1 st1 R1 r1 => by
    rw [r1.db]; exact ⟨k, rfl, k' S1 H1 ad1 st1 R1⟩⟩
theorem td_cmpI {op : CmpOp} {g : Int → Int → Bool} (ho : OpR X (compareOp op) (rI0 fun i j => .bl (g i j))) (hm : behindInMarks op b = false) {i j : Int} (ha : ED X ρ a (.d (.int i)) ρ1) (hb : ED X ρ1 b (.d (.int j)) ρ2) :
    TD X ρ (.Compare a [op] [b] pos) (g i j) ρ2 := td_of (pt_cmpR ho ha hb hm) fun σ H Q hk => td_two σ H Q _ hk fun fr S ad S1 H1 ad1 v1 v2 R st r1 r2 Q' k => by
  rw [r1.di, r2.di]; exact ⟨i, j, rfl, rfl, k S1 H1 ad1 (.refl _ _) R⟩
section
variable {i j : Int} (ha : ED X ρ a (.d (.int i)) ρ1) (hb : ED X ρ1 b (.d (.int j)) ρ2)
include ha hb
theorem ed_lt : ED X ρ (.Compare a [.Lt] [b] pos) (.d (.bl (decide (i < j)))) ρ2 := ed_cmpI (g := fun i j => decide (i < j)) op_lt (nomark _) ha hb
theorem ed_gt : ED X ρ (.Compare a [.Gt] [b] pos) (.d (.bl (decide (j < i)))) ρ2 := ed_cmpI (g := fun i j => decide (j < i)) op_gt (nomark _) ha hb
theorem td_lt : TD X ρ (.Compare a [.Lt] [b] pos) (decide (i < j)) ρ2 := td_cmpI (g := fun i j => decide (i < j)) op_lt (nomark _) ha hb
theorem td_le : TD X ρ (.Compare a [.LtE] [b] pos) (decide (i ≤ j)) ρ2 := td_cmpI (g := fun i j => decide (i ≤ j)) op_le (nomark _) ha hb
theorem td_gt : TD X ρ (.Compare a [.Gt] [b] pos) (decide (j < i)) ρ2 := td_cmpI (g := fun i j => decide (j < i)) op_gt (nomark _) ha hb
theorem td_ge : TD X ρ (.Compare a [.GtE] [b] pos) (decide (j ≤ i)) ρ2 := td_cmpI (g := fun i j => decide (j ≤ i)) op_ge (nomark _) ha hb
omit ha hb in
omit ha hb in
end
end
end DL

namespace DL
open PySem PySem.Spec PyProof.Rows L2

section
variable {X : Cx} {ρ ρ' ρ1 ρ2 ρ3 : Env} {e a b c : Expr} {es rest : List Expr} {x y z : VD} {pos : Pos} {p q : Bool}
/-! ### and, or, not, if -/
theorem td_not (h : TD X ρ a p ρ1) : TD X ρ (.UnaryOp .Not a pos) (!p) ρ1 := td_of (pt_not h) fun σ H Q ⟨fr, S, ad, R, k⟩ => ⟨fr, S, ad, R, k⟩
theorem tw_and1 (h : TD X ρ a p ρ1) : TW X ρ (.BoolOp .And [a] pos) p ρ1 := pw_and1 h
theorem tw_or1 (h : TD X ρ a p ρ1) : TW X ρ (.BoolOp .Or [a] pos) p ρ1 := pw_or1 h
/-- a reading that holds only under a condition -/
theorem tw_when {P : Prop} {t : TT} (h : P → PW X e t) : PW X e (fun σ H Q => P ∧ t σ H Q) := ⟨fun wh pins s σ H Q I hq => (h hq.1).run wh pins s σ H Q I hq.2⟩
theorem ed_when {P : Prop} {t : TE} (h : P → PE X e t) : PE X e (fun σ H Q => P ∧ t σ H Q) := ⟨fun pins s σ H Q I hq => (h hq.1).run pins s σ H Q I hq.2⟩
theorem tw_and (ha : TD X ρ a p ρ) (hb : p = true → TW X ρ (.BoolOp .And (b :: rest) pos) q ρ) : TW X ρ (.BoolOp .And (a :: b :: rest) pos) (p && q) ρ :=
  tw_of (pw_and ha (tw_when hb)) fun σ H Q ⟨fr, S, ad, R, k⟩ => ⟨fr, S, ad, R, fun S1 H1 ad1 st R1 => by
    cases p with
    | true => exact iteT ⟨rfl, fr, S1, ad1, R1, fun S2 H2 ad2 st2 R2 => k S2 H2 ad2 (st.trans st2) R2⟩
    | false => exact iteF (k S1 H1 ad1 st R1)⟩
theorem tw_or (ha : TD X ρ a p ρ) (hb : p = false → TW X ρ (.BoolOp .Or (b :: rest) pos) q ρ) : TW X ρ (.BoolOp .Or (a :: b :: rest) pos) (p || q) ρ :=
  tw_of (pw_or ha (tw_when hb)) fun σ H Q ⟨fr, S, ad, R, k⟩ => ⟨fr, S, ad, R, fun S1 H1 ad1 st R1 => by
    cases p with
    | true => exact iteT (k S1 H1 ad1 st R1)
    | false => exact iteF ⟨rfl, fr, S1, ad1, R1, fun S2 H2 ad2 st2 R2 => k S2 H2 ad2 (st.trans st2) R2⟩⟩
/-- as values -/
theorem ed_one {op : BoolOp} (h : ED X ρ a x ρ1) : ED X ρ (.BoolOp op [a] pos) x ρ1 := pe_one h
theorem ed_and (ha : ED X ρ a (.d (.bl p)) ρ) (hb : p = true → ED X ρ (.BoolOp .And (b :: rest) pos) (.d (.bl q)) ρ) : ED X ρ (.BoolOp .And (a :: b :: rest) pos) (.d (.bl (p && q))) ρ :=
  ed_of (pe_and ha (ed_when hb)) fun σ H Q ⟨fr, S, ad, R, k⟩ => ⟨fr, S, ad, R, fun S1 H1 ad1 v st R1 r1 => by
    rw [r1.db]
    refine ⟨p, rfl, ?_⟩
    cases p with
    | true => exact iteT ⟨rfl, fr, S1, ad1, R1, fun S2 H2 ad2 v2 st2 R2 r2 => k S2 H2 ad2 v2 (st.trans st2) R2 r2⟩
    | false => exact iteF (k S1 H1 ad1 _ st R1 (.d (.bl _)))⟩
theorem ed_or (ha : ED X ρ a (.d (.bl p)) ρ) (hb : p = false → ED X ρ (.BoolOp .Or (b :: rest) pos) (.d (.bl q)) ρ) : ED X ρ (.BoolOp .Or (a :: b :: rest) pos) (.d (.bl (p || q))) ρ :=
  ed_of (pe_or ha (ed_when hb)) fun σ H Q ⟨fr, S, ad, R, k⟩ => ⟨fr, S, ad, R, fun S1 H1 ad1 v st R1 r1 => by
    rw [r1.db]
    refine ⟨p, rfl, ?_⟩
    cases p with
    | true => exact iteT (k S1 H1 ad1 _ st R1 (.d (.bl _)))
    | false => exact iteF ⟨rfl, fr, S1, ad1, R1, fun S2 H2 ad2 v2 st2 R2 r2 => k S2 H2 ad2 v2 (st.trans st2) R2 r2⟩⟩
theorem ed_not (ha : ED X ρ a (.d (.bl p)) ρ1) : ED X ρ (.UnaryOp .Not a pos) (.d (.bl (!p))) ρ1 :=
  ed_of (pe_not ha) fun σ H Q ⟨fr, S, ad, R, k⟩ => ⟨fr, S, ad, R, fun S1 H1 ad1 v st R1 r1 => by
    rw [r1.db]
    exact ⟨p, rfl, k S1 H1 ad1 _ st R1 (.d (.bl _))⟩⟩
theorem ed_ifT (hc : TD X ρ c true ρ1) (ha : ED X ρ1 a x ρ2) : ED X ρ (.IfExp c a b pos) x ρ2 := by
  have hb : false = true → PE X b (tE X.K ρ1 x ρ2) := fun z => nomatch z
  exact ed_of (pe_ifExp hc ha (ed_when hb)) fun σ H Q ⟨fr, S, ad, R, k⟩ => ⟨fr, S, ad, R, fun S1 H1 ad1 st R1 =>
    iteT ⟨fr, S1, ad1, R1, fun S2 H2 ad2 v2 st2 R2 r2 => k S2 H2 ad2 v2 (st.trans st2) R2 r2⟩⟩
theorem ed_ifF (hc : TD X ρ c false ρ1) (hb : ED X ρ1 b x ρ2) : ED X ρ (.IfExp c a b pos) x ρ2 := by
  have ha : false = true → PE X a (tE X.K ρ1 x ρ2) := fun z => nomatch z
  exact ed_of (pe_ifExp hc (ed_when ha) hb) fun σ H Q ⟨fr, S, ad, R, k⟩ => ⟨fr, S, ad, R, fun S1 H1 ad1 st R1 =>
    iteF ⟨fr, S1, ad1, R1, fun S2 H2 ad2 v2 st2 R2 r2 => k S2 H2 ad2 v2 (st.trans st2) R2 r2⟩⟩
/-! ### a < b < c of ints -/
theorem chain_ {r r' : R2} {g g' : Int → Int → Bool} {i j k : Int} (er : r = rI0 fun i j => .bl (g i j)) (er' : r' = rI0 fun i j => .bl (g' i j)) {σ : L2.St} {H : Hp} {Q : VK} (hk : tE X.K ρ (.d (.bl (g i j && g' j k))) ρ σ H Q) :
    tChain r r' (tE X.K ρ (.d (.int i)) ρ) (tE X.K ρ (.d (.int j)) ρ) (tE X.K ρ (.d (.int k)) ρ) σ H Q := by
  subst er er'
  obtain ⟨fr, S, ad, R, kk⟩ := hk
  refine ⟨fr, S, ad, R, fun S1 H1 ad1 v1 st1 R1 rv1 => ⟨fr, S1, ad1, R1, fun S2 H2 ad2 v2 st2 R2 rv2 => ?_⟩⟩
  rw [rv1.di, rv2.di]
  refine ⟨i, j, rfl, rfl, g i j, rfl, ?_⟩
  cases q : g i j with
  | false =>
    rw [q] at kk
    exact iteF (kk S2 H2 ad2 _ (st1.trans st2) R2 (.d (.bl _)))
  | true =>
    rw [q] at kk
    refine iteT ⟨fr, S2, ad2, R2, fun S3 H3 ad3 v3 st3 R3 rv3 => ?_⟩
    rw [rv3.di]
    exact ⟨j, k, rfl, rfl, kk S3 H3 ad3 _ ((st1.trans st2).trans st3) R3 (.d (.bl _))⟩
theorem ed_chain {op op' : CmpOp} {g g' : Int → Int → Bool} (ho : OpR X (compareOp op) (rI0 fun i j => .bl (g i j))) (ho' : OpR X (compareOp op') (rI0 fun i j => .bl (g' i j))) {i j k : Int}
    (ha : ED X ρ a (.d (.int i)) ρ) (hb : ED X ρ b (.d (.int j)) ρ) (hc : ED X ρ c (.d (.int k)) ρ) (hm : lastMarks [op, op'] [b, c] = false := by with_unfolding_all rfl) : ED X ρ (.Compare a [op, op'] [b, c] pos) (.d (.bl (g i j && g' j k))) ρ :=
  ed_of (pe_chain ho ho' ha hb hc hm) fun σ H Q hk => chain_ rfl rfl hk
theorem td_chain {op op' : CmpOp} {g g' : Int → Int → Bool} (ho : OpR X (compareOp op) (rI0 fun i j => .bl (g i j))) (ho' : OpR X (compareOp op') (rI0 fun i j => .bl (g' i j))) {i j k : Int}
    (ha : ED X ρ a (.d (.int i)) ρ) (hb : ED X ρ b (.d (.int j)) ρ) (hc : ED X ρ c (.d (.int k)) ρ) (hm : lastMarks [op, op'] [b, c] = false := by with_unfolding_all rfl) : TD X ρ (.Compare a [op, op'] [b, c] pos) (g i j && g' j k) ρ :=
  td_of (pt_chain ho ho' ha hb hc hm) fun σ H Q ⟨fr, S, ad, R, kk⟩ => chain_ rfl rfl ⟨fr, S, ad, R, fun S1 H1 ad1 v1 st1 R1 rv1 => by rw [rv1.db]; exact ⟨_, rfl, kk S1 H1 ad1 st1 R1⟩⟩
section
variable {i j k : Int} (ha : ED X ρ a (.d (.int i)) ρ) (hb : ED X ρ b (.d (.int j)) ρ) (hc : ED X ρ c (.d (.int k)) ρ)
include ha hb hc
theorem ed_lele (hm : lastMarks [.LtE, .LtE] [b, c] = false := by with_unfolding_all rfl) : ED X ρ (.Compare a [.LtE, .LtE] [b, c] pos) (.d (.bl (decide (i ≤ j) && decide (j ≤ k)))) ρ := ed_chain (g := fun i j => decide (i ≤ j)) (g' := fun i j => decide (i ≤ j)) op_le op_le ha hb hc hm
theorem td_lele (hm : lastMarks [.LtE, .LtE] [b, c] = false := by with_unfolding_all rfl) : TD X ρ (.Compare a [.LtE, .LtE] [b, c] pos) (decide (i ≤ j) && decide (j ≤ k)) ρ := td_chain (g := fun i j => decide (i ≤ j)) (g' := fun i j => decide (i ≤ j)) op_le op_le ha hb hc hm
end
/-! ### equality of scalars; is None -/
def D.sc : D → Option V
  | .non => some .non | .bl b => some (.bl b) | .int i => some (.int i) | .str s => some (.str s)
  | _ => none
theorem Rp.sc {K : PySem.W.Frag} {S : Hp} {v w : V} {d : D} (h : Rp K S v d) (e : d.sc = some w) : v = w := by
  cases h <;> simp [D.sc] at e <;> exact e
/-- the scalars that == tells apart as data -/
def scD : D → D → Bool
  | .int _, .int _ | .bl _, .bl _ | .str _, .str _ | .non, .non | .int _, .str _ | .str _, .int _ | .non, .int _ | .int _, .non | .non, .str _ | .str _, .non | .non, .bl _ | .bl _, .non => true
  | _, _ => false
def eqSc : D → D → Bool
  | .int i, .int j => decide (i = j)
  | .bl i, .bl j => decide (i = j)
  | .str i, .str j => decide (i = j)
  | .non, .non => true
  | _, _ => false
theorem scD_ok {K : PySem.W.Frag} {S S' : Hp} {v w : V} {d d' : D} (h : Rp K S v d) (h' : Rp K S' w d') (e : scD d d' = true) : scal v w = true ∧ decide (v = w) = eqSc d d' := by
  cases h <;> cases h' <;> first | (simp [scD] at e; done) | (simp [scal, eqSc])
theorem ed_eqS {d d' : D} (ha : ED X ρ a (.d d) ρ1) (hb : ED X ρ1 b (.d d') ρ2) (h : scD d d' = true) : ED X ρ (.Compare a [.Eq] [b] pos) (.d (.bl (eqSc d d'))) ρ2 :=
  ed_of (pe_cmpR op_eq ha hb (nomark _)) fun σ H Q hk => two_ σ H Q _ hk fun fr S ad S1 H1 ad1 v1 v2 R st r1 r2 k => by
    obtain ⟨h1, h2⟩ := scD_ok r1.dd r2.dd h
    exact ⟨h1, by rw [h2]; exact k S1 H1 ad1 _ (.refl _ _) R (.d (.bl _))⟩
theorem ed_neS {d d' : D} (ha : ED X ρ a (.d d) ρ1) (hb : ED X ρ1 b (.d d') ρ2) (h : scD d d' = true) : ED X ρ (.Compare a [.NotEq] [b] pos) (.d (.bl (!eqSc d d'))) ρ2 :=
  ed_of (pe_cmpR op_ne ha hb (nomark _)) fun σ H Q hk => two_ σ H Q _ hk fun fr S ad S1 H1 ad1 v1 v2 R st r1 r2 k => by
    obtain ⟨h1, h2⟩ := scD_ok r1.dd r2.dd h
    exact ⟨h1, by rw [h2]; exact k S1 H1 ad1 _ (.refl _ _) R (.d (.bl _))⟩
theorem td_eqS {d d' : D} (ha : ED X ρ a (.d d) ρ1) (hb : ED X ρ1 b (.d d') ρ2) (h : scD d d' = true) : TD X ρ (.Compare a [.Eq] [b] pos) (eqSc d d') ρ2 :=
  td_of (pt_cmpR op_eq ha hb (nomark _)) fun σ H Q hk => td_two σ H Q _ hk fun fr S ad S1 H1 ad1 v1 v2 R st r1 r2 Q' k => by
    obtain ⟨h1, h2⟩ := scD_ok r1.dd r2.dd h
    exact ⟨h1, by rw [h2]; exact k S1 H1 ad1 (.refl _ _) R⟩
theorem td_neS {d d' : D} (ha : ED X ρ a (.d d) ρ1) (hb : ED X ρ1 b (.d d') ρ2) (h : scD d d' = true) : TD X ρ (.Compare a [.NotEq] [b] pos) (!eqSc d d') ρ2 :=
  td_of (pt_cmpR op_ne ha hb (nomark _)) fun σ H Q hk => td_two σ H Q _ hk fun fr S ad S1 H1 ad1 v1 v2 R st r1 r2 Q' k => by
    obtain ⟨h1, h2⟩ := scD_ok r1.dd r2.dd h
    exact ⟨h1, by rw [h2]; exact k S1 H1 ad1 (.refl _ _) R⟩
/-! ### argument lists and displays -/
theorem ad_nil : AD X ρ [] [] ρ := ad_of pa_nil fun σ H Q ⟨fr, S, ad, R, k⟩ => k S H ad [] (.refl _ _) R .nil
theorem ad_cons {xs : List VD} (ha : ED X ρ a x ρ1) (hr : AD X ρ1 es xs ρ2) (hs : starEach (a :: es) X.env = (false, eval a X.env) :: starEach es X.env := by rfl) : AD X ρ (a :: es) (x :: xs) ρ2 :=
  ad_of (pa_cons ha hr hs) fun σ H Q ⟨fr, S, ad, R, k⟩ => ⟨fr, S, ad, R, fun S1 H1 ad1 v1 st1 R1 r1 => ⟨fr, S1, ad1, R1, fun S2 H2 ad2 vs st2 R2 r2 => k S2 H2 ad2 _ (st1.trans st2) R2 (.cons (r1.mono st2) r2)⟩⟩
inductive AllD : List VD → List D → Prop
  | nil : AllD [] []
  | cons {d : D} {xs : List VD} {ds : List D} : AllD xs ds → AllD (.d d :: xs) (d :: ds)
theorem AllD.rp {K : PySem.W.Frag} {S : Hp} {ad : List Addr} : ∀ {vs : List V} {xs : List VD} {ds : List D}, AllD xs ds → RvAll K S ad vs xs → RpAll K S vs ds
  | _, _, _, .nil, h => by cases h; exact .nil
  | _, _, _, .cons a, h => by
    cases h with
    | cons r t => exact .cons r.dd (a.rp t)
theorem AllD.length {xs : List VD} {ds : List D} : AllD xs ds → xs.length = ds.length
  | .nil => rfl
  | .cons h => by simp [h.length]
theorem AllD.of_map : ∀ (ds : List D), AllD (ds.map VD.d) ds
  | [] => .nil
  | _ :: ds => .cons (.of_map ds)
theorem ed_tup {xs : List VD} {ds : List D} {k1} (h : AD X ρ es xs ρ1) (hd : AllD xs ds) (hz : ds.length ≤ sizeLine := by decide) : ED X ρ (.Tuple es k1 pos) (.d (.tup ds)) ρ1 :=
  ed_of (pe_tup h) fun σ H Q ⟨fr, S, ad, R, k⟩ => ⟨fr, S, ad, R, fun S1 H1 ad1 vs st1 R1 r1 => ⟨by rw [r1.length, hd.length]; exact hz, fun p hp => by
    obtain ⟨R2, st2⟩ := R1.newS (o := .tup vs) hp
    exact k _ _ ad1 _ (st1.trans st2) R2 (.d (.tup upd_same ((hd.rp r1).mono st2.s)))⟩⟩
theorem ed_lst {xs : List VD} {ds : List D} (h : AD X ρ es xs ρ1) (hd : AllD xs ds) (hz : ds.length ≤ sizeLine := by decide) : ED X ρ (.List es pos) (.d (.lst ds)) ρ1 :=
  ed_of (pe_lst h) fun σ H Q ⟨fr, S, ad, R, k⟩ => ⟨fr, S, ad, R, fun S1 H1 ad1 vs st1 R1 r1 => ⟨by rw [r1.length, hd.length]; exact hz, fun p hp => by
    obtain ⟨R2, st2⟩ := R1.newS (o := .lst vs) hp
    exact k _ _ ad1 _ (st1.trans st2) R2 (.d (.lst (SqL.of upd_same) ((hd.rp r1).mono st2.s)))⟩⟩
/-- a new list that is ours -/
theorem ed_lstO {xs : List VD} {ds : List D} (h : AD X ρ es xs ρ1) (hd : AllD xs ds) (hz : ds.length ≤ sizeLine := by decide) : ED X ρ (.List es pos) (.loc ρ1.ow.length) { ρ1 with ow := ρ1.ow ++ [some (.lst ds)] } :=
  ed_of (pe_lst h) fun σ H Q ⟨fr, S, ad, R, k⟩ => ⟨fr, S, ad, R, fun S1 H1 ad1 vs st1 R1 r1 => ⟨by rw [r1.length, hd.length]; exact hz, fun p hp => by
    obtain ⟨R2, st2, e⟩ := R1.newO (p := p) (ho := .lst vs) (o := .lst ds) hp (hd.rp r1)
    exact k _ _ _ _ (st1.trans st2) R2 (.loc e)⟩⟩
end
end DL

namespace DL
open PySem PySem.Spec PyProof.Rows L2

/-! ### statements -/
structure Kn where
  nx : Env → Prop
  rt : D → List (Option OD) → Prop
  bk : Env → Prop := fun _ => False
  ct : Env → Prop := fun _ => False
  /-- the n-th object of ours is handed back -/
  ro : Nat → Env → Prop := fun _ _ => False
structure KnOk (K : PySem.W.Frag) (fr : Fr) (k : Kn) (Dn : Ends) : Prop where
  nx : ∀ ρ σ S H ad, k.nx ρ → Rel K fr ρ σ S H ad → Dn.nx σ H
  rt : ∀ d ρ σ S H ad v, k.rt d ρ.ow → Rel K fr ρ σ S H ad → Rp K S v d → Dn.rt v H
  bk : ∀ ρ σ S H ad, k.bk ρ → Rel K fr ρ σ S H ad → Dn.bk σ H
  ct : ∀ ρ σ S H ad, k.ct ρ → Rel K fr ρ σ S H ad → Dn.ct σ H
  ro : ∀ n ρ σ S H ad l, k.ro n ρ → Rel K fr ρ σ S H ad → ad[n]? = some l → Dn.rt (.ref l) H
def tS (K : PySem.W.Frag) (ρ : Env) (k : Kn) : TS := fun Dn σ H => ∃ fr S ad, Rel K fr ρ σ S H ad ∧ KnOk K fr k Dn
def SD (X : Cx) (ρ : Env) (st : Stmt) (k : Kn) : Prop := PS X st (tS X.K ρ k)
def SDs (X : Cx) (ρ : Env) (sts : List Stmt) (k : Kn) : Prop := PSs X sts (tS X.K ρ k)
/-- a target takes a value; the slots at vs are stored -/
def tG (K : PySem.W.Frag) (vs : List Nat) (ρ : Env) (x : VD) (ρ' : Env) : TG := fun v σ H Q => ∃ fr S ad, Rel K fr ρ σ S H ad ∧ Rv K S ad v x ∧
  ∀ σ' S' H' ad', Step S ad S' ad' → Rel K fr ρ' σ' S' H' ad' → σ'.length = σ.length → (∀ j, j ∉ vs → σ'[j]? = σ[j]?) → Q σ' H'
def GD (X : Cx) (vs : List Nat) (ρ : Env) (tg : Expr) (x : VD) (ρ' : Env) : Prop := PG X tg (tG X.K vs ρ x ρ')
def tGs (K : PySem.W.Frag) (vs : List Nat) (ρ : Env) (xs : List VD) (ρ' : Env) : TGs := fun ws σ H Q => ∃ fr S ad, Rel K fr ρ σ S H ad ∧ RvAll K S ad ws xs ∧
  ∀ σ' S' H' ad', Step S ad S' ad' → Rel K fr ρ' σ' S' H' ad' → σ'.length = σ.length → (∀ j, j ∉ vs → σ'[j]? = σ[j]?) → Q σ' H'
def GDs (X : Cx) (vs : List Nat) (ρ : Env) (tg : List Expr) (xs : List VD) (ρ' : Env) : Prop := PGs X tg (tGs X.K vs ρ xs ρ')
section
variable {X : Cx} {ρ ρ' ρ1 ρ2 ρ3 : Env} {e a b c : Expr} {es rest : List Expr} {x y z : VD} {pos : Pos} {p q : Bool} {st : Stmt} {r body orelse : List Stmt} {k : Kn}
theorem sd_of {t : TS} (h : PS X st t) (q : ∀ Dn σ H, tS X.K ρ k Dn σ H → t Dn σ H) : SD X ρ st k := ⟨fun pins s σ H Dn I hq => h.run pins s σ H Dn I (q Dn σ H hq)⟩
theorem sds_of {t : TS} (h : PSs X r t) (q : ∀ Dn σ H, tS X.K ρ k Dn σ H → t Dn σ H) : SDs X ρ r k := ⟨fun pins s σ H Dn I hq => h.run pins s σ H Dn I (q Dn σ H hq)⟩
theorem gd_of {t : TG} {tg : Expr} {vs : List Nat} (h : PG X tg t) (q : ∀ v σ H Q, tG X.K vs ρ x ρ' v σ H Q → t v σ H Q) : GD X vs ρ tg x ρ' := ⟨fun pins s σ H v u Q I rv hq => h.run pins s σ H v u Q I rv (q v σ H Q hq)⟩
/-- weaker wishes -/
theorem KnOk.imp {K : PySem.W.Frag} {fr : Fr} {k k' : Kn} {Dn : Ends} (h : KnOk K fr k Dn) (h1 : ∀ ρ, k'.nx ρ → k.nx ρ) (h2 : ∀ d o, k'.rt d o → k.rt d o) (h3 : ∀ ρ, k'.bk ρ → k.bk ρ) (h4 : ∀ ρ, k'.ct ρ → k.ct ρ) (h5 : ∀ n ρ, k'.ro n ρ → k.ro n ρ) : KnOk K fr k' Dn :=
  ⟨fun ρ σ S H ad q => h.nx ρ σ S H ad (h1 ρ q), fun d ρ σ S H ad v q => h.rt d ρ σ S H ad v (h2 d _ q), fun ρ σ S H ad q => h.bk ρ σ S H ad (h3 ρ q), fun ρ σ S H ad q => h.ct ρ σ S H ad (h4 ρ q), fun n ρ σ S H ad l q => h.ro n ρ σ S H ad l (h5 n ρ q)⟩
theorem SDs.imp {k k' : Kn} (h : SDs X ρ r k') (h1 : ∀ ρ, k'.nx ρ → k.nx ρ) (h2 : ∀ d o, k'.rt d o → k.rt d o) (h3 : ∀ ρ, k'.bk ρ → k.bk ρ := by intro _ h; exact h) (h4 : ∀ ρ, k'.ct ρ → k.ct ρ := by intro _ h; exact h) (h5 : ∀ n ρ, k'.ro n ρ → k.ro n ρ := by intro _ _ h; first | exact h | exact h.elim) : SDs X ρ r k :=
  sds_of h fun Dn σ H ⟨fr, S, ad, R, kk⟩ => ⟨fr, S, ad, R, kk.imp h1 h2 h3 h4 h5⟩
/-- a reading by any of several states -/
theorem pss_any {P : Env → Kn → Prop} (h : ∀ ρ k, P ρ k → SDs X ρ r k) : PSs X r (fun Dn σ H => ∃ ρ k, P ρ k ∧ tS X.K ρ k Dn σ H) := ⟨fun pins s σ H Dn I ⟨ρ, k, hp, hq⟩ => (h ρ k hp).run pins s σ H Dn I hq⟩
theorem sds_nil (h : k.nx ρ) : SDs X ρ [] k := sds_of pss_nil fun Dn σ H ⟨fr, S, ad, R, kk⟩ => kk.nx ρ σ S H ad h R
theorem sds_cons (h : SD X ρ st { k with nx := fun ρ' => SDs X ρ' r k }) : SDs X ρ (st :: r) k :=
  sds_of (pss_cons h (pss_any (P := fun ρ' k' => SDs X ρ' r k' ∧ k' = k) fun _ _ h => h.1)) fun Dn σ H ⟨fr, S, ad, R, kk⟩ =>
    ⟨fr, S, ad, R, fun ρ' σ' S' H' ad' hn R' => ⟨ρ', k, ⟨hn, rfl⟩, fr, S', ad', R', kk⟩, kk.rt, kk.bk, kk.ct, kk.ro⟩
/-- the rest is never reached -/
theorem sds_end {t : TS} (h : PS X st t) (q : ∀ Dn σ H, tS X.K ρ k Dn σ H → ∀ nx, t { Dn with nx := nx } σ H) : SDs X ρ (st :: r) k :=
  sds_of (pss_cons h pss_never) fun Dn σ H hq => q Dn σ H hq _
/-- return e -/
theorem sds_ret {d : D} (he : ED X ρ e (.d d) ρ1) (h : k.rt d ρ1.ow) : SDs X ρ (.Return (some e) pos :: r) k :=
  sds_end (ps_ret he) fun Dn σ H ⟨fr, S, ad, R, kk⟩ nx => ⟨fr, S, ad, R, fun S1 H1 ad1 v st R1 r1 => kk.rt d ρ1 σ S1 H1 ad1 v h R1 r1.dd⟩
/-- return e, an object of ours -/
theorem sds_retO {n : Nat} (he : ED X ρ e (.loc n) ρ1) (h : k.ro n ρ1) : SDs X ρ (.Return (some e) pos :: r) k :=
  sds_end (ps_ret he) fun Dn σ H ⟨fr, S, ad, R, kk⟩ nx => ⟨fr, S, ad, R, fun S1 H1 ad1 v st R1 r1 => by
    obtain ⟨l, e1, e2⟩ := r1.dl
    subst e1
    exact kk.ro n ρ1 σ S1 H1 ad1 l h R1 e2⟩
/-- e; -/
theorem sds_expr (he : ED X ρ e x ρ1) (h : SDs X ρ1 r k) (hs : swapsWith e none pos.line X.env = pure false := by rfl) : SDs X ρ (.Expr e pos :: r) k :=
  sds_cons (sd_of (ps_expr he hs) fun Dn σ H ⟨fr, S, ad, R, kk⟩ => ⟨fr, S, ad, R, fun S1 H1 ad1 v st R1 r1 => kk.nx ρ1 σ S1 H1 ad1 h R1⟩)
def Env.put (ρ : Env) (i : Nat) (x : VD) : Env := { ρ with sl := ρ.sl.set i (some x) }
/-- name = e -/
theorem sds_set (i : Nat) {n : Str} {pos' : Pos} (he : ED X ρ e x ρ1) (h : SDs X (ρ1.put i x) r k) (hN : X.N.Nodup) (hi : X.N[i]? = some n) (hx : Loc X.env.scope n) (hs : swapsWith e (some (.Name n pos')) pos.line X.env = pure false)
    (hf : X.fn n = true ∨ X.env.scope.names.lookup n = some .local) : SDs X ρ (.Assign [.Name n pos'] e pos :: r) k :=
  sds_cons (sd_of (ps_set hN hi hx he hs hf) fun Dn σ H ⟨fr, S, ad, R, kk⟩ => ⟨fr, S, ad, R, fun S1 H1 ad1 v st R1 r1 => kk.nx (ρ1.put i x) _ S1 H1 ad1 h (R1.setSl r1)⟩)
/-- a, b = e1, e2 -/
theorem sds_par (i j : Nat) {m n : Str} {px py pt : Pos} {kt k2 pt2} (ha : AD X ρ [a, b] [x, y] ρ1) (h : SDs X ((ρ1.put i x).put j y) r k) (hc : X.calm = true) (hN : X.N.Nodup) (hi : X.N[i]? = some m) (hj : X.N[j]? = some n) (hij : i ≠ j)
    (hx : X.env.scope.names.lookup m = some .local) (hy : X.env.scope.names.lookup n = some .local)
    (hw : swappedStores [.Tuple [.Name m px, .Name n py] kt pt] (.Tuple [a, b] k2 pt2) X.env = pure (some [m, n]))
    (hs : swapsWithSole [.Tuple [.Name m px, .Name n py] kt pt] (.Tuple [a, b] k2 pt2) pos.line X.env = pure false) : SDs X ρ (.Assign [.Tuple [.Name m px, .Name n py] kt pt] (.Tuple [a, b] k2 pt2) pos :: r) k :=
  sds_cons (sd_of (ps_par hc hN hi hj hij hx hy ha hw hs) fun Dn σ H ⟨fr, S, ad, R, kk⟩ => ⟨fr, S, ad, R, fun S1 H1 ad1 vs st R1 r1 => by
    cases r1 with
    | cons r1 t1 =>
      cases t1 with
      | cons r2 t2 =>
        cases t2
        exact ⟨_, _, rfl, kk.nx _ _ S1 H1 ad1 h ((R1.setSl r1).setSl r2)⟩⟩)
/-- if -/
theorem sds_if (hc : TD X ρ c p ρ1) (ha : p = true → SDs X ρ1 body { k with nx := fun ρ' => SDs X ρ' r k }) (hb : p = false → SDs X ρ1 orelse { k with nx := fun ρ' => SDs X ρ' r k }) : SDs X ρ (.If c body orelse pos :: r) k := by
  refine sds_cons (sd_of (ps_if hc (pss_any (P := fun ρ' k' => p = true ∧ ρ' = ρ1 ∧ k' = { k with nx := fun ρ' => SDs X ρ' r k }) fun ρ' k' h => ?_) (pss_any (P := fun ρ' k' => p = false ∧ ρ' = ρ1 ∧ k' = { k with nx := fun ρ' => SDs X ρ' r k }) fun ρ' k' h => ?_)) fun Dn σ H ⟨fr, S, ad, R, kk⟩ => ⟨fr, S, ad, R, fun S1 H1 ad1 st R1 => ?_⟩)
  · obtain ⟨h1, rfl, rfl⟩ := h; exact ha h1
  · obtain ⟨h1, rfl, rfl⟩ := h; exact hb h1
  · cases p with
    | true => exact iteT ⟨ρ1, _, ⟨rfl, rfl, rfl⟩, fr, S1, ad1, R1, kk⟩
    | false => exact iteF ⟨ρ1, _, ⟨rfl, rfl, rfl⟩, fr, S1, ad1, R1, kk⟩
/-- an object of ours is given up: it is data from now on -/
def fzV (n : Nat) (d : D) : VD → VD
  | .loc j => if j = n then .d d else .loc j
  | .d x => .d x
def fzO (n : Nat) (d : D) : OD → OD
  | .ins C ns xs => .ins C ns (xs.map (fzV n d))
  | o => o
def Env.fz (ρ : Env) (n : Nat) (d : D) : Env := { ρ with sl := ρ.sl.map (Option.map (fzV n d)), ow := (ρ.ow.set n none).map (Option.map (fzO n d)) }
/-- what an object holds, as data -/
inductive ODD : OD → D → Prop
  | lst (ds : List D) : ODD (.lst ds) (.lst ds)
  | ins (C : Addr) (ns : List Str) {xs : List VD} {ds : List D} : AllD xs ds → ODD (.ins C ns xs) (.ins C ns ds)
theorem fzV_ok {K : PySem.W.Frag} {S : Hp} {ad : List Addr} {n : Nat} {l : Addr} {d : D} (hl : ad[n]? = some l) (hr : Rp K S (.ref l) d) {v : V} {x : VD} (h : Rv K S ad v x) : Rv K S ad v (fzV n d x) := by
  cases h with
  | d h => exact .d h
  | @loc j l' h =>
    show Rv K S ad (.ref l') (if j = n then .d d else .loc j)
    by_cases e : j = n
    · subst e
      rw [h] at hl; cases hl
      rw [if_pos rfl]; exact .d hr
    · rw [if_neg e]; exact .loc h
theorem fzAll_ok {K : PySem.W.Frag} {S : Hp} {ad : List Addr} {n : Nat} {l : Addr} {d : D} (hl : ad[n]? = some l) (hr : Rp K S (.ref l) d) : ∀ {vs : List V} {xs : List VD}, RvAll K S ad vs xs → RvAll K S ad vs (xs.map (fzV n d))
  | _, _, .nil => .nil
  | _, _, .cons h t => .cons (fzV_ok hl hr h) (fzAll_ok hl hr t)
theorem Rel.fz {K : PySem.W.Frag} {fr : Fr} {ρ : Env} {σ : L2.St} {S H : Hp} {ad : List Addr} (R : Rel K fr ρ σ S H ad) {n : Nat} {o : OD} {d : D} (hn : ρ.ow[n]? = some (some o)) (hd : ODD o d) (hm : ρ.m ≤ n) :
    ∃ S' l, Step S ad S' ad ∧ Rel K fr (ρ.fz n d) σ S' H ad ∧ ad[n]? = some l ∧ Rp K S' (.ref l) d := by
  obtain ⟨l, ho, e1, e2, e3, e4, e5⟩ := R.own n o hn
  have hst : Step S ad (upd S l ho) ad := ⟨.new e2, [], by simp⟩
  have hlt := (List.getElem?_eq_some_iff.mp hn).1
  have rp : Rp K (upd S l ho) (.ref l) d := by
    have e4 := e4.mono hst
    cases hd with
    | lst ds => cases ho <;> first | exact e4.elim | exact .lst (SqL.of upd_same) e4
    | ins C ns hA =>
      cases ho <;> first | exact e4.elim | skip
      obtain ⟨h0, vs, h1, h2, h3⟩ := e4
      subst h0 h1
      exact .ins upd_same h2 (hA.rp h3)
  refine ⟨upd S l ho, l, hst, ⟨⟨R.grow.s.trans hst.s, fun a u e => ?_, R.grow.h, fun a h1 h2 h3 => ?_⟩, fun i x e => ?_, fun j u e => ?_, R.mm, R.nd, ?_, ?_, fun j hj => ?_, R.lv⟩, e1, rp⟩
  · by_cases h : a = l
    · subst h; rw [upd_same] at e; cases e; exact e3
    · rw [upd_ne h] at e; exact R.grow.sh a u e
  · have ne : a ≠ l := fun z => h2 (z ▸ e5 hm)
    rw [upd_ne ne]; exact R.grow.n a h1 h2 h3
  · have e' : (ρ.sl.map (Option.map (fzV n d)))[i]? = some (some x) := e
    rw [List.getElem?_map] at e'
    cases q : ρ.sl[i]? with
    | none => rw [q] at e'; cases e'
    | some y =>
      rw [q] at e'
      cases y with
      | none => cases e'
      | some y =>
        have e'' : fzV n d y = x := by simpa using e'
        obtain ⟨v, f1, f2⟩ := R.slots i y q
        exact ⟨v, f1, e'' ▸ fzV_ok e1 rp (f2.mono hst)⟩
  · have e' : ((ρ.ow.set n none).map (Option.map (fzO n d)))[j]? = some (some u) := e
    rw [List.getElem?_map] at e'
    by_cases hj : j = n
    · subst hj
      rw [List.getElem?_set_self hlt] at e'; cases e'
    · rw [List.getElem?_set_ne (Ne.symm hj)] at e'
      cases q : ρ.ow[j]? with
      | none => rw [q] at e'; cases e'
      | some y =>
        rw [q] at e'
        cases y with
        | none => cases e'
        | some y =>
          have e'' : fzO n d y = u := by simpa using e'
          obtain ⟨l2, u2, f1, f2, f3, f4, f5⟩ := R.own j y q
          have ne : l2 ≠ l := fun z => by subst z; exact hj (nodup_ixA R.nd f1 e1)
          refine ⟨l2, u2, f1, by rw [upd_ne ne]; exact f2, f3, ?_, f5⟩
          have f4 := f4.mono hst
          subst e''
          cases u2 <;> cases y <;> first | exact f4.elim | exact f4 | skip
          obtain ⟨h0, vs, h1, h2, h3⟩ := f4
          exact ⟨h0, vs, h1, h2, fzAll_ok e1 rp h3⟩
  · show (ρ.sl.map _).length = _
    rw [List.length_map]; exact R.len
  · show _ = ((ρ.ow.set n none).map _).length
    rw [List.length_map, List.length_set]; exact R.al
  · obtain ⟨o', e⟩ := R.ml j hj
    have hj2 : ρ.m = (ρ.fz n d).m := rfl
    have hj' : j ≠ n := by
      have : j < ρ.m := hj
      omega
    refine ⟨fzO n d o', ?_⟩
    show ((ρ.ow.set n none).map (Option.map (fzO n d)))[j]? = _
    rw [List.getElem?_map, List.getElem?_set_ne (Ne.symm hj'), e]; rfl
/-- an expression's object, given up -/
theorem ED.fz {n : Nat} {o : OD} {d : D} (he : ED X ρ e (.loc n) ρ1) (hn : ρ1.ow[n]? = some (some o)) (hd : ODD o d) (hm : ρ1.m ≤ n) : ED X ρ e (.d d) (ρ1.fz n d) :=
  ed_of he fun σ H Q ⟨fr, S, ad, R, kk⟩ => ⟨fr, S, ad, R, fun S1 H1 ad1 v st R1 r1 => by
    obtain ⟨S2, l, st2, R2, e1, rp⟩ := R1.fz hn hd hm
    obtain ⟨l', e2, e3⟩ := r1.dl
    rw [e1] at e3; cases e3
    subst e2
    exact kk S2 H1 ad1 _ (st.trans st2) R2 (.d rp)⟩
/-- the state seen otherwise (an equal one) -/
theorem sds_eq (h : SDs X ρ1 r k) (e : ρ = ρ1) : SDs X ρ r k := e ▸ h
/-! ### targets -/
theorem gd_name (i : Nat) {n : Str} (hN : X.N.Nodup) (hi : X.N[i]? = some n) (hx : Loc X.env.scope n) (hf : X.fn n = true ∨ X.env.scope.names.lookup n = some .local) : GD X [i] ρ (.Name n pos) x (ρ.put i x) :=
  gd_of (pg_name hN hi hx hf) fun v σ H Q ⟨fr, S, ad, R, rv, k⟩ => k _ S H ad (.refl _ _) (R.setSl rv) (by simp) fun j hj => List.getElem?_set_ne (by simp at hj; exact fun z => hj z.symm)
theorem gds_nil : GDs X [] ρ [] [] ρ := ⟨fun pins s σ H vs us Q I rv ⟨fr, S, ad, R, rs, k⟩ => by
  cases rs
  exact pgs_nil.run pins s σ H [] us Q I rv ⟨rfl, k σ S H ad (.refl _ _) R rfl fun _ _ => rfl⟩⟩
theorem gds_cons {vs ws : List Nat} {xs : List VD} (h1 : GD X vs ρ e x ρ1) (h2 : GDs X ws ρ1 es xs ρ2) (hs : (assignEach (e :: es) X.env).map (·.2) = assign e X.env :: (assignEach es X.env).map (·.2) := by rfl) : GDs X (vs ++ ws) ρ (e :: es) (x :: xs) ρ2 :=
  ⟨fun pins s σ H vs' us Q I rv ⟨fr, S, ad, R, rs, k⟩ => by
    cases rs with
    | cons ra rb =>
      refine (pgs_cons h1 h2 hs).run pins s σ H _ us Q I rv ⟨_, _, rfl, fr, S, ad, R, ra, fun σ1 S1 H1 ad1 st R1 hl hj => ⟨fr, S1, ad1, R1, rb.mono st, fun σ2 S2 H2 ad2 st2 R2 hl2 hj2 => ?_⟩⟩
      exact k σ2 S2 H2 ad2 (st.trans st2) R2 (hl2.trans hl) fun j hn => by
        simp only [List.mem_append, not_or] at hn
        rw [hj2 j hn.2, hj j hn.1]⟩
theorem gd_tup {vs : List Nat} {xs : List VD} {ds : List D} {n kk : Nat} (hc : X.calm = true) (h : GDs X vs ρ es (ds.map VD.d) ρ1) (hl : ds.length = n) (hn : (assignEach es X.env).length = n) (hst : (assignEach es X.env).findIdx? (·.1) = none) :
    GD X vs ρ (.Tuple es kk pos) (.d (.tup ds)) ρ1 :=
  gd_of (pg_tup hc h hn hst) fun v σ H Q ⟨fr, S, ad, R, rv, k⟩ => by
    obtain ⟨a, ws, e1, e2, e3⟩ := rv.dd.tup_inv
    exact ⟨a, ws, e1, ex_t R.grow.sh e2, by rw [e3.length]; exact hl, fr, S, ad, R, .of_d e3, k⟩
end
end DL

namespace DL
open PySem PySem.Spec PyProof.Rows L2

/-! ### what is walked -/
/-- at turn i it gives ds[i]; the heap stays, or one new thing comes -/
def YD (K : PySem.W.Frag) (S0 : Hp) (ds : List D) : Nat → Hp → V → Hp → Prop := fun i H x H1 => ∀ S, Ex S0 S → Ex S H → ∃ d, ds[i]? = some d ∧
  ((H1 = H ∧ Rp K S x d) ∨ (∃ p o, H p = none ∧ H1 = upd H p o ∧ Rp K (upd S p o) x d) ∨ (∃ b xs, H1 = H ∧ x = .ref b ∧ H b = some (.tup xs) ∧ ∀ S', Ex S S' → S' b = some (.tup xs) → Rp K S' x d) ∨
    ∃ p q ys v, H p = none ∧ H1 = upd H p (.tup [.ref q, v]) ∧ x = .ref p ∧ H q = some (.tup ys) ∧ ∀ S', Ex S S' → S' q = some (.tup ys) → S' p = some (.tup [.ref q, v]) → Rp K S' x d)
def tI (K : PySem.W.Frag) (ρ : Env) (ds : List D) (ρ' : Env) : TI := fun σ H R => ∃ fr S ad, Rel K fr ρ σ S H ad ∧ ∀ S' H' ad' J, Step S ad S' ad' → Rel K fr ρ' σ S' H' ad' → Walk J ds.length (fun H'' => Ex S' H'') (YD K S' ds) → R J H'
def ItD (X : Cx) (ρ : Env) (tg iter : Expr) (ds : List D) (ρ' : Env) : Prop := PI X tg iter (tI X.K ρ ds ρ')
section
variable {X : Cx} {ρ ρ' ρ1 ρ2 ρ3 : Env} {e a b c tg iter : Expr} {es rest : List Expr} {x y z : VD} {pos : Pos} {p q : Bool} {st : Stmt} {r body orelse : List Stmt} {k : Kn} {ds : List D}
theorem it_of {t : TI} (h : PI X tg iter t) (q : ∀ σ H R, tI X.K ρ ds ρ' σ H R → t σ H R) : ItD X ρ tg iter ds ρ' := ⟨fun pins s σ H R I hq => h.run pins s σ H R I (q σ H R hq)⟩
/-- a turn's item, by the state -/
theorem Rel.item {K : PySem.W.Frag} {fr : Fr} {ρ : Env} {σ : L2.St} {S H H1 S0 : Hp} {ad : List Addr} {i : Nat} {x : V} (R : Rel K fr ρ σ S H ad) (h0 : Ex S0 S) (h : YD K S0 ds i H x H1) :
    ∃ S1 d, ds[i]? = some d ∧ Step S ad S1 ad ∧ Rel K fr ρ σ S1 H1 ad ∧ Rp K S1 x d := by
  obtain ⟨d, hd, h⟩ := h S h0 R.grow.sh
  rcases h with ⟨e, rp⟩ | ⟨p, o, hp, e, rp⟩ | ⟨b, xs, e, e2, hb, rp⟩ | ⟨p, q, ys, v, hp, e, e2, hq, rp⟩
  · subst e; exact ⟨S, d, hd, .refl _ _, R, rp⟩
  · subst e
    obtain ⟨R2, st2⟩ := R.newS (o := o) hp
    exact ⟨_, d, hd, st2, R2, rp⟩
  · subst e
    obtain ⟨S2, R2, st2, e3⟩ := R.tupS hb
    exact ⟨S2, d, hd, st2, R2, rp S2 st2.s e3⟩
  · subst e
    obtain ⟨S2, R2, st2, e3⟩ := R.tupS hq
    obtain ⟨R3, st3⟩ := R2.newS (o := .tup [.ref q, v]) hp
    exact ⟨_, d, hd, st2.trans st3, R3, rp _ (st2.trans st3).s (st3.s _ _ e3) upd_same⟩
theorem Rel.up {K : PySem.W.Frag} {fr : Fr} {ρ ρ1 : Env} {σ σ1 : L2.St} {S H S1 H1 : Hp} {ad ad1 : List Addr} (R1 : Rel K fr ρ1 σ1 S1 H1 ad1) (R : Rel K fr ρ σ S H ad) (e : Ex S1 S) : Rel K ⟨fr.M, S1, fr.H⟩ ρ σ S H ad :=
  ⟨⟨e, R.grow.sh, R.grow.h, fun a h1 h2 h3 => R.grow.n a (R1.grow.s.back h1) h2 h3⟩, R.slots, R.own, R.mm, R.nd, R.len, R.al, R.ml, R.lv⟩
theorem Rel.down {K : PySem.W.Frag} {fr : Fr} {ρ ρ1 : Env} {σ σ1 : L2.St} {S H S1 H1 : Hp} {ad ad1 : List Addr} (R1 : Rel K fr ρ1 σ1 S1 H1 ad1) (R : Rel K ⟨fr.M, S1, fr.H⟩ ρ σ S H ad) : Rel K fr ρ σ S H ad ∧ Ex S1 S :=
  ⟨⟨⟨R1.grow.s.trans R.grow.s, R.grow.sh, R.grow.h, fun a h1 h2 h3 => R.grow.n a (R1.grow.n a h1 h2 h3) h2 h3⟩, R.slots, R.own, R.mm, R.nd, R.len, R.al, R.ml, R.lv⟩, R.grow.s⟩
def fG (K : PySem.W.Frag) (vs : List Nat) (P : Nat → D → Env → Env → Prop) : TG := fun v σ H Q => ∃ (i : Nat) (d : D) (ρ ρ' : Env), P i d ρ ρ' ∧ tG K vs ρ (.d d) ρ' v σ H Q
def fB (X : Cx) (body : List Stmt) : TS := fun Dn σ H => ∃ ρ' k', SDs X ρ' body k' ∧ tS X.K ρ' k' Dn σ H
theorem fB_ok (body : List Stmt) : PSs X body (fB X body) := pss_any (P := fun ρ' k' => SDs X ρ' body k') fun _ _ h => h
theorem fG_ok {vs : List Nat} {P : Nat → D → Env → Env → Prop} (h : ∀ i d ρ ρ', P i d ρ ρ' → GD X vs ρ tg (.d d) ρ') : PG X tg (fG X.K vs P) :=
  ⟨fun pins s σ H v u Q I rv ⟨i, d, ρ, ρ', h1, hq⟩ => (h i d ρ ρ' h1).run pins s σ H v u Q I rv hq⟩
/-- for target in iter: body -/
theorem sds_for {vs : List Nat} (hi : ItD X ρ tg iter ds ρ1) (I : Nat → Env → Prop) (h0 : I 0 ρ1)
    (hs : ∀ i d ρ, ds[i]? = some d → I i ρ → ∃ ρ', GD X vs ρ tg (.d d) ρ' ∧ SDs X ρ' body { nx := I (i + 1), ct := I (i + 1), bk := fun ρ' => SDs X ρ' r k, rt := k.rt })
    (hd : ∀ ρ, I ds.length ρ → SDs X ρ r k) (hp : PassesOwn (model X.prog X.w) X.A X.env X.xe) (hc : X.calm = true) (hfs : ∀ x, foldedSetIterable iter X.env x = pure x) : SDs X ρ (.For tg iter body [] pos :: r) k := by
  have hg : PG X tg (fG X.K vs fun i d ρ ρ' => ds[i]? = some d ∧ GD X vs ρ tg (.d d) ρ') := fG_ok fun i d ρ ρ' h => h.2
  refine sds_cons (sd_of (ps_for hp hc hi hg (fB_ok body) hfs) fun Dn σ H ⟨fr, S, ad, R, kk⟩ => ⟨fr, S, ad, R, fun S1 H1 ad1 J st1 R1 w => ?_⟩)
  refine for_it (g := fG X.K vs fun i d ρ ρ' => ds[i]? = some d ∧ GD X vs ρ tg (.d d) ρ') (tb := fB X body) (D := Dn) w (fun i σ' H' => ∃ ρ S' ad', I i ρ ∧ Rel X.K fr ρ σ' S' H' ad' ∧ Ex S1 S') ⟨ρ1, S1, ad1, h0, R1, .refl _⟩ (fun i σ' H' _ ⟨ρ, S', ad', _, R', e⟩ => e.trans R'.grow.sh) ?_ ?_
  · rintro i xv σ' H' H2 hlt ⟨ρ', S', ad', hI, R', e⟩ hy
    obtain ⟨S2, d, hd1, st2, R2, rp⟩ := R'.item e hy
    obtain ⟨ρ2, hg2, hb2⟩ := hs i d ρ' hd1 hI
    have Ru := R1.up R2 (e.trans st2.s)
    refine ⟨i, d, ρ', ρ2, ⟨hd1, hg2⟩, ⟨fr.M, S1, fr.H⟩, S2, ad', Ru, .d rp, fun σ3 S3 H3 ad3 st3 R3 _ _ => ⟨ρ2, _, hb2, ⟨fr.M, S1, fr.H⟩, S3, ad3, R3, fun ρ4 σ4 S4 H4 ad4 hn R4 => ?_, fun d4 ρ4 σ4 S4 H4 ad4 v4 hr R4 rp4 => kk.rt d4 ρ4 σ4 S4 H4 ad4 v4 hr (R1.down R4).1 rp4, fun ρ4 σ4 S4 H4 ad4 hn R4 => kk.nx ρ4 σ4 S4 H4 ad4 hn (R1.down R4).1, fun ρ4 σ4 S4 H4 ad4 hn R4 => ?_, fun _ _ _ _ _ _ _ z => z.elim⟩⟩
    · obtain ⟨R5, e5⟩ := R1.down R4
      exact ⟨ρ4, S4, ad4, hn, R5, e5⟩
    · obtain ⟨R5, e5⟩ := R1.down R4
      exact ⟨ρ4, S4, ad4, hn, R5, e5⟩
  · rintro σ' H' ⟨ρ', S', ad', hI, R', e⟩
    exact kk.nx ρ' σ' S' H' ad' (hd ρ' hI) R'
/-! ### things that are walked -/
theorem yd_at {K : PySem.W.Frag} {S0 : Hp} {vs : List V} (h : RpAll K S0 vs ds) {i : Nat} {H : Hp} {x : V} {H1 : Hp} (q : YAt vs i H x H1) : YD K S0 ds i H x H1 := fun S e _ => by
  obtain ⟨d, h1, h2⟩ := h.get q.2
  exact ⟨d, h1, .inl ⟨q.1, h2.mono e⟩⟩
theorem it_list (h : ED X ρ e (.d (.lst ds)) ρ1) : ItD X ρ tg e ds ρ1 := it_of (pi_list h) fun σ H Q ⟨fr, S, ad, R, k⟩ => ⟨fr, S, ad, R, fun S1 H1 ad1 v st1 R1 r1 => by
  obtain ⟨a, vs, e1, e2, e3⟩ := r1.dd.lst_inv
  subst e1
  refine ⟨a, rfl, ⟨vs, ex_l R1.grow.sh e2⟩, k S1 H1 ad1 _ st1 R1 ?_⟩
  have w := walk_list (K := X.K) (a := a) (xs := vs)
  rw [e3.length] at w
  exact w.mono (fun H h => ex_l h e2) fun i H x H' _ _ y => yd_at e3 y⟩
theorem it_tup (h : ED X ρ e (.d (.tup ds)) ρ1) : ItD X ρ tg e ds ρ1 := it_of (pi_tup h) fun σ H Q ⟨fr, S, ad, R, k⟩ => ⟨fr, S, ad, R, fun S1 H1 ad1 v st1 R1 r1 => by
  obtain ⟨a, vs, e1, e2, e3⟩ := r1.dd.tup_inv
  subst e1
  refine ⟨a, rfl, ⟨vs, ex_t R1.grow.sh e2⟩, k S1 H1 ad1 _ st1 R1 ?_⟩
  have w := walk_tup (K := X.K) (a := a) (xs := vs)
  rw [e3.length] at w
  exact w.mono (fun H h => ex_t h e2) fun i H x H' _ _ y => yd_at e3 y⟩
theorem it_ktp (h : ED X ρ e (.d (.ktp ds)) ρ1) : ItD X ρ tg e ds ρ1 := it_of (pi_tup h) fun σ H Q ⟨fr, S, ad, R, k⟩ => ⟨fr, S, ad, R, fun S1 H1 ad1 v st1 R1 r1 => by
  obtain ⟨a, vs, e1, e2, e3⟩ := r1.dd.ktp_inv
  subst e1
  refine ⟨a, rfl, ⟨vs, ex_t R1.grow.sh e2⟩, k S1 H1 ad1 _ st1 R1 ?_⟩
  have w := walk_tup (K := X.K) (a := a) (xs := vs)
  rw [e3.length] at w
  exact w.mono (fun H h => ex_t h e2) fun i H x H' _ _ y => yd_at e3 y⟩
/-- range(lo, hi) as data -/
def rngD (lo : Int) (n : Nat) : List D := (List.range n).map fun (i : Nat) => D.int (lo + (i : Int))
theorem rngD_length (lo : Int) (n : Nat) : (rngD lo n).length = n := by simp [rngD]
theorem walk_rngD {K : PySem.W.Frag} {S0 : Hp} {lo : Int} {n : Nat} {G : Hp → Prop} : Walk (Itr lo n) (rngD lo n).length G (YD K S0 (rngD lo n)) := by
  rw [rngD_length]
  refine (walk_range (lo := lo) (n := n)).mono (fun _ _ => trivial) fun i H x H' hi _ y S _ _ => ⟨.int (lo + i), ?_, .inl ⟨y.1, ?_⟩⟩
  · simp [rngD, hi]
  · rw [y.2]; exact .int _
theorem it_range1 {j : Int} {pp : Pos} (ha : ED X ρ a (.d (.int j)) ρ1) (hg : Gl X "range") (hm : X.mg "range" = none) (hb : -(2 ^ 62) ≤ j ∧ j < 2 ^ 62) (hs : starEach [a] X.env = [(false, eval a X.env)] := by rfl) :
    ItD X ρ tg (.Call (.Name "range" pp) [a] [] pos) (rngD 0 j.toNat) ρ1 := it_of (pi_range1 hg hm (ad_cons ha ad_nil (hs.trans rfl)) hs) fun σ H Q ⟨fr, S, ad, R, k⟩ => ⟨fr, S, ad, R, fun S1 H1 ad1 vs st1 R1 r1 => by
  cases r1 with
  | cons r1 t => cases t; rw [r1.di]; exact ⟨j, rfl, hb.1, hb.2, k S1 H1 ad1 _ st1 R1 walk_rngD⟩⟩
end
end DL

namespace DL
open PySem PySem.Spec PyProof.Rows L2

/-! ### an object aside: as if it had stood at the entry -/
def frD (fr : Fr) (p : Addr) (o : HO) : Fr := ⟨fr.M, fr.S, upd fr.H p o⟩
section
variable {K : PySem.W.Frag} {fr : Fr} {ρ : Env} {σ : L2.St} {S H : Hp} {ad : List Addr} {p : Addr} {o o' : HO}
theorem Rel.notM' (R : Rel K fr ρ σ S H ad) (hp : H p = none) : p ∉ fr.M := fun h => by
  obtain ⟨_, _, _, _, _, _, _, e⟩ := R.atM h
  rw [hp] at e; cases e
theorem Rel.fr0 (R : Rel K fr ρ σ S H ad) (hp : H p = none) : fr.H p = none := by
  cases q : fr.H p with
  | none => rfl
  | some u => exact absurd hp (R.old (by rw [q]; simp))
theorem Rel.ext (R : Rel K fr ρ σ S H ad) (hp : H p = none) : Rel K (frD fr p o) ρ σ S (upd H p o) ad := by
  have hS : S p = none := R.grow.sh.back hp
  refine ⟨⟨R.grow.s, R.grow.sh.mut hS, fun a u e hm => ?_, fun a h1 h2 h3 => ?_⟩, R.slots, fun n u e => ?_, R.mm, R.nd, R.len, R.al, R.ml, fun l hl => upd_some (R.lv l hl)⟩
  · by_cases h : a = p
    · subst h
      have e : upd fr.H a o a = some u := e
      rw [upd_same] at e ⊢; exact e
    · have e : upd fr.H p o a = some u := e
      rw [upd_ne h] at e ⊢; exact R.grow.h a u e hm
  · by_cases h : a = p
    · subst h; exact hS
    · have h2 : upd fr.H p o a ≠ none := h2
      have h3 : ∀ xs, upd fr.H p o a ≠ some (.tup xs) := h3
      rw [upd_ne h] at h2 h3; exact R.grow.n a h1 h2 h3
  · obtain ⟨l, ho, e1, e2, e3, e4, e5⟩ := R.own n u e
    have hl : l ≠ p := ne_of_none e3 hp
    exact ⟨l, ho, e1, e2, by rw [upd_ne hl]; exact e3, e4, fun hm => by show upd fr.H p o l = none; rw [upd_ne hl]; exact e5 hm⟩
theorem Rel.extAt (R : Rel K (frD fr p o) ρ σ S H ad) (hM : p ∉ fr.M) (hS : fr.S p = none) (nt : ∀ xs, o ≠ .tup xs := by intro _ h; cases h) : H p = some o ∧ S p = none :=
  ⟨R.grow.h p o upd_same hM, R.grow.n p hS (by show upd fr.H p o p ≠ none; rw [upd_same]; simp) (fun xs e => by have e : upd fr.H p o p = some (.tup xs) := e; rw [upd_same] at e; cases e; exact nt xs rfl)⟩
theorem Rel.extNe (R : Rel K (frD fr p o) ρ σ S H ad) (hM : p ∉ fr.M) {n : Nat} {u : OD} {l : Addr} (e : ρ.ow[n]? = some (some u)) (hl : ad[n]? = some l) : l ≠ p := fun z => by
  subst z
  obtain ⟨l', ho, e1, e2, e3, e4, e5⟩ := R.own n u e
  rw [hl] at e1; cases e1
  by_cases hm : ρ.m ≤ n
  · have : upd fr.H l o l = none := e5 hm
    rw [upd_same] at this; cases this
  · exact hM (R.inM hl (by omega))
theorem Rel.extSet (R : Rel K (frD fr p o) ρ σ S H ad) (hM : p ∉ fr.M) (hS : fr.S p = none) (nt : ∀ xs, o ≠ .tup xs := by intro _ h; cases h) : Rel K (frD fr p o') ρ σ S (upd H p o') ad := by
  obtain ⟨hp, hSp⟩ := R.extAt hM hS nt
  refine ⟨⟨R.grow.s, R.grow.sh.mut hSp, fun a u e hm => ?_, fun a h1 h2 h3 => ?_⟩, R.slots, fun n u e => ?_, R.mm, R.nd, R.len, R.al, R.ml, fun l hl => upd_some (R.lv l hl)⟩
  · by_cases h : a = p
    · subst h
      have e : upd fr.H a o' a = some u := e
      rw [upd_same] at e ⊢; exact e
    · have e : upd fr.H p o' a = some u := e
      rw [upd_ne h] at e ⊢; exact R.grow.h a u (by show upd fr.H p o a = some u; rw [upd_ne h]; exact e) hm
  · by_cases h : a = p
    · subst h; exact hSp
    · have h2 : upd fr.H p o' a ≠ none := h2
      have h3 : ∀ xs, upd fr.H p o' a ≠ some (.tup xs) := h3
      rw [upd_ne h] at h2 h3; exact R.grow.n a h1 (by show upd fr.H p o a ≠ none; rw [upd_ne h]; exact h2) (fun xs => by show upd fr.H p o a ≠ _; rw [upd_ne h]; exact h3 xs)
  · obtain ⟨l, ho, e1, e2, e3, e4, e5⟩ := R.own n u e
    have hl : l ≠ p := R.extNe hM e e1
    exact ⟨l, ho, e1, e2, by rw [upd_ne hl]; exact e3, e4, fun hm => by
      have := e5 hm
      show upd fr.H p o' l = none
      have this : upd fr.H p o l = none := this
      rw [upd_ne hl] at this ⊢; exact this⟩
/-- the object aside is data from now on -/
theorem Rel.extTake (R : Rel K (frD fr p o) ρ σ S H ad) (hM : p ∉ fr.M) (hS : fr.S p = none) (h0 : fr.H p = none) (nt : ∀ xs, o ≠ .tup xs := by intro _ h; cases h) : Rel K fr ρ σ (upd S p o) H ad ∧ Step S ad (upd S p o) ad := by
  obtain ⟨hp, hSp⟩ := R.extAt hM hS nt
  have hst : Step S ad (upd S p o) ad := ⟨.new hSp, [], by simp⟩
  refine ⟨⟨⟨R.grow.s.trans hst.s, fun a u e => ?_, fun a u e hm => ?_, fun a h1 h2 h3 => ?_⟩, fun i x e => ?_, fun n u e => ?_, R.mm, R.nd, R.len, R.al, R.ml, R.lv⟩, hst⟩
  · by_cases h : a = p
    · subst h; rw [upd_same] at e; cases e; exact hp
    · rw [upd_ne h] at e; exact R.grow.sh a u e
  · have h : a ≠ p := fun z => by rw [z, h0] at e; cases e
    exact R.grow.h a u (by show upd fr.H p o a = some u; rw [upd_ne h]; exact e) hm
  · have h : a ≠ p := fun z => h2 (z ▸ h0)
    rw [upd_ne h]
    exact R.grow.n a h1 (by show upd fr.H p o a ≠ none; rw [upd_ne h]; exact h2) (fun xs => by show upd fr.H p o a ≠ _; rw [upd_ne h]; exact h3 xs)
  · obtain ⟨v, e1, e2⟩ := R.slots i x e
    exact ⟨v, e1, e2.mono hst⟩
  · obtain ⟨l, ho, e1, e2, e3, e4, e5⟩ := R.own n u e
    have hl : l ≠ p := R.extNe hM e e1
    exact ⟨l, ho, e1, by rw [upd_ne hl]; exact e2, e3, e4.mono hst, fun hm => by
      have this : upd fr.H p o l = none := e5 hm
      rw [upd_ne hl] at this; exact this⟩
end
/-! ### slots forgotten -/
def wpE (sl : List (Option VD)) : List Nat → List (Option VD)
  | [] => sl
  | v :: vs => (wpE sl vs).set v none
theorem wpE_length (sl : List (Option VD)) : ∀ vs, (wpE sl vs).length = sl.length
  | [] => rfl
  | v :: vs => by unfold wpE; rw [List.length_set, wpE_length sl vs]
theorem wpE_some {sl : List (Option VD)} {i : Nat} {x : VD} : ∀ {vs : List Nat}, (wpE sl vs)[i]? = some (some x) → sl[i]? = some (some x) ∧ i ∉ vs
  | [], h => ⟨h, by simp⟩
  | v :: vs, h => by
    unfold wpE at h
    by_cases hi : v = i
    · subst hi
      by_cases hv : v < (wpE sl vs).length
      · rw [List.getElem?_set_self hv] at h; cases h
      · rw [List.getElem?_eq_none (by simpa using hv)] at h; cases h
    · rw [List.getElem?_set_ne hi] at h
      obtain ⟨h1, h2⟩ := wpE_some h
      exact ⟨h1, by simp only [List.mem_cons, not_or]; exact ⟨fun e => hi e.symm, h2⟩⟩
theorem wipe_in {σ : L2.St} {i : Nat} : ∀ {vs : List Nat}, i ∈ vs → i < σ.length → (wipe σ vs)[i]? = some none
  | [], h, _ => by cases h
  | v :: vs, h, hl => by
    unfold wipe
    by_cases hi : v = i
    · subst hi; exact List.getElem?_set_self (by rw [wipe_length]; exact hl)
    · rw [List.getElem?_set_ne hi]
      rcases List.mem_cons.mp h with z | z
      · exact absurd z.symm hi
      · exact wipe_in z hl
theorem wipe_eq {σ τ : L2.St} {vs gv : List Nat} (hl : τ.length = σ.length) (hj : ∀ j, j ∉ gv → τ[j]? = (wipe σ vs)[j]?) (hv : ∀ j ∈ gv, j ∈ vs) : wipe τ vs = wipe σ vs := by
  apply List.ext_getElem?
  intro j
  by_cases h : j ∈ vs
  · by_cases hlt : j < σ.length
    · rw [wipe_in h hlt, wipe_in h (by rw [hl]; exact hlt)]
    · rw [List.getElem?_eq_none (by rw [wipe_length, hl]; omega), List.getElem?_eq_none (by rw [wipe_length]; omega)]
  · rw [wipe_out h, hj j fun z => h (hv j z)]
theorem Rel.wiped {K : PySem.W.Frag} {fr : Fr} {ρ : Env} {σ : L2.St} {S H : Hp} {ad : List Addr} (R : Rel K fr ρ σ S H ad) (vs : List Nat) : Rel K fr { ρ with sl := wpE ρ.sl vs } (wipe σ vs) S H ad :=
  R.weak (by rw [wpE_length, wipe_length]; exact R.len) fun i x e => by
    obtain ⟨h1, h2⟩ := wpE_some e
    exact ⟨h1, wipe_out h2⟩
/-! ### list comprehensions -/
abbrev Blk (X : Cx) (scope : Scope) (P : Cx → Prop) : Prop := ∀ (s : Shared) (H : Hp) (C : Addr) (cl : List (Str × Addr)) (fp : List Addr), P (X.blk s H scope (compEnvC scope cl C X.env) fp)
def TDs (X : Cx) (ρ : Env) (ifs : List Expr) (b : Bool) (ρ' : Env) : Prop := PTs X ifs (tT X.K ρ b ρ')
section
variable {X : Cx} {ρ ρ' ρ1 ρ2 ρ3 : Env} {e a b c tg iter elt : Expr} {es rest ifs : List Expr} {x y z : VD} {pos : Pos} {p q : Bool} {st : Stmt} {r body orelse : List Stmt} {k : Kn} {ds : List D}
theorem tds_nil : TDs X ρ [] true ρ := ⟨fun pins s σ H Q I ⟨fr, S, ad, R, k⟩ => pts_nil.run pins s σ H Q I (k S H ad (.refl _ _) R)⟩
theorem tds_one (h : TD X ρ c p ρ1) : TDs X ρ [c] p ρ1 := pts_one h
/-- what one turn does: ow the objects ahead, acc the list so far -/
def LcTurn (X : Cx) (scope : Scope) (gv vs : List Nat) (ρ1 : Env) (tg elt : Expr) (ifs : List Expr) (I : List D → List (Option OD) → Prop) (d : D) (acc : List D) (ow : List (Option OD)) : Prop :=
  ∃ sl2 p ow3, Blk X scope (fun Y => GD Y gv { ρ1 with sl := wpE ρ1.sl vs, ow := ow } tg (.d d) { ρ1 with sl := sl2, ow := ow }) ∧
    Blk X scope (fun Y => TDs Y { ρ1 with sl := sl2, ow := ow } ifs p { ρ1 with sl := sl2, ow := ow3 }) ∧
    (p = true → ∃ e ow4, Blk X scope (fun Y => ED Y { ρ1 with sl := sl2, ow := ow3 } elt (.d e) { ρ1 with sl := sl2, ow := ow4 }) ∧ I (acc ++ [e]) ow4) ∧ (p = false → I acc ow3)
def bG (X : Cx) (scope : Scope) (gv : List Nat) (tg : Expr) : TG := fun v σ H Q => ∃ ρ x ρ', Blk X scope (fun Y => GD Y gv ρ tg x ρ') ∧ tG X.K gv ρ x ρ' v σ H Q
def bT (X : Cx) (scope : Scope) (ifs : List Expr) : TT := fun σ H Q => ∃ ρ p ρ', Blk X scope (fun Y => TDs Y ρ ifs p ρ') ∧ tT X.K ρ p ρ' σ H Q
def bE (X : Cx) (scope : Scope) (elt : Expr) : TE := fun σ H Q => ∃ ρ x ρ', Blk X scope (fun Y => ED Y ρ elt x ρ') ∧ tE X.K ρ x ρ' σ H Q
theorem bG_ok {scope : Scope} {gv : List Nat} : Blk X scope (fun Y => PG Y tg (bG X scope gv tg)) := fun s H C cl fp => ⟨fun pins s' σ H' v u Q I rv ⟨ρ, x, ρ', h1, hq⟩ => (h1 s H C cl fp).run pins s' σ H' v u Q I rv hq⟩
theorem bT_ok {scope : Scope} : Blk X scope (fun Y => PTs Y ifs (bT X scope ifs)) := fun s H C cl fp => ⟨fun pins s' σ H' Q I ⟨ρ, x, ρ', h1, hq⟩ => (h1 s H C cl fp).run pins s' σ H' Q I hq⟩
theorem bE_ok {scope : Scope} : Blk X scope (fun Y => PE Y elt (bE X scope elt)) := fun s H C cl fp => ⟨fun pins s' σ H' Q I ⟨ρ, x, ρ', h1, hq⟩ => (h1 s H C cl fp).run pins s' σ H' Q I hq⟩
theorem lc_read {gv vs : List Nat} {scope : Scope} (hgv : ∀ j ∈ gv, j ∈ vs) (I : Nat → List D → List (Option OD) → Prop) (h0 : I 0 [] ρ1.ow)
    (hs : ∀ i d acc ow, ds[i]? = some d → I i acc ow → LcTurn X scope gv vs ρ1 tg elt ifs (I (i + 1)) d acc ow) (hz : ds.length ≤ sizeLine) {out : List D} {ow' : List (Option OD)} (hd : ∀ acc ow, I ds.length acc ow → acc = out ∧ ow = ow')
    (hlen : ∀ i acc ow, I i acc ow → acc.length ≤ i) {σ : L2.St} {H : Hp} {Q : VK} (hq : tE X.K ρ (.d (.lst out)) { ρ1 with ow := ow' } σ H Q) :
    tLc (tI X.K ρ ds ρ1) (bG X scope gv tg) (bT X scope ifs) (bE X scope elt) vs σ H Q := by
  obtain ⟨fr, S, ad, R, kk⟩ := hq
  refine ⟨fr, S, ad, R, fun S1 H1 ad1 J st1 R1 w L hL => ?_⟩
  have hM : L ∉ fr.M := R1.notM' hL
  have h0' : fr.H L = none := R1.fr0 hL
  have hSL : fr.S L = none := R1.grow.s.back (R1.grow.sh.back hL)
  refine lc_it (g := bG X scope gv tg) (tt := bT X scope ifs) (te := bE X scope elt) (vs := vs) (σ := σ) (D := L) (Qd := fun H' => Q (.ref L) H') w
    (fun i H' => ∃ acc accv ow S' ad', I i acc ow ∧ Rel X.K (frD fr L (.lst accv)) { ρ1 with sl := wpE ρ1.sl vs, ow := ow } (wipe σ vs) S' H' ad' ∧ RpAll X.K S' accv acc ∧ Step S1 ad1 S' ad') ?_ ?_ ?_ ?_
  · exact ⟨[], [], ρ1.ow, S1, ad1, h0, (R1.ext hL).wiped vs, .nil, .refl _ _⟩
  · rintro i H' _ ⟨acc, accv, ow, S', ad', _, R', _, st'⟩
    exact st'.s.trans R'.grow.sh
  · rintro i xv H' H2 hlt ⟨acc, accv, ow, S', ad', hI, R', ra, st'⟩ hy
    obtain ⟨S2, d, hd1, st2, R2, rp⟩ := R'.item st'.s hy
    obtain ⟨sl2, p, ow3, hG, hT, hE, hF⟩ := hs i d acc ow hd1 hI
    refine ⟨_, _, _, hG, _, S2, ad', R2, .d rp, fun σ3 S3 H3 ad3 st3 R3 hl3 hj3 => ⟨wipe_eq (hl3.trans (wipe_length _ _)) hj3 hgv, _, _, _, hT, _, S3, ad3, R3, fun S4 H4 ad4 st4 R4 => ?_⟩⟩
    have back : ∀ {S5 : Hp} {H5 : Hp} {ad5 : List Addr} {ow5 : List (Option OD)}, Rel X.K (frD fr L (.lst accv)) { ρ1 with sl := sl2, ow := ow5 } σ3 S5 H5 ad5 → Step S2 ad' S5 ad5 → Rel X.K (frD fr L (.lst accv)) { ρ1 with sl := wpE ρ1.sl vs, ow := ow5 } (wipe σ vs) S5 H5 ad5 := by
      intro S5 H5 ad5 ow5 R5 st5
      refine ⟨R5.grow, fun j x e => ?_, R5.own, R5.mm, R5.nd, R2.len, R5.al, R5.ml, R5.lv⟩
      obtain ⟨v, e1, e2⟩ := R2.slots j x e
      exact ⟨v, e1, e2.mono st5⟩
    cases p with
    | false => exact iteF ⟨acc, accv, ow3, S4, ad4, hF rfl, back R4 (st3.trans st4), ra.mono ((st2.trans st3).trans st4).s, ((st'.trans st2).trans st3).trans st4⟩
    | true =>
      obtain ⟨e, ow4, hE1, hI4⟩ := hE rfl
      refine iteT ⟨_, _, _, hE1, _, S4, ad4, R4, fun S5 H5 ad5 v5 st5 R5 rv5 => ?_⟩
      obtain ⟨hp5, _⟩ := R5.extAt hM hSL
      refine ⟨accv, hp5, ?_, acc ++ [e], accv ++ [v5], ow4, S5, ad5, hI4, (back R5 ((st3.trans st4).trans st5)).extSet hM hSL, ?_, (((st'.trans st2).trans st3).trans st4).trans st5⟩
      · rw [ra.length]
        have := hlen i acc ow hI
        omega
      · exact (ra.mono (((st2.trans st3).trans st4).trans st5).s).append (.cons rv5.dd .nil)
  · rintro H' ⟨acc, accv, ow, S', ad', hI, R', ra, st'⟩
    obtain ⟨rfl, rfl⟩ := hd acc ow hI
    obtain ⟨R2, st2⟩ := R'.extTake hM hSL h0'
    refine kk _ H' ad' _ ((st1.trans st').trans st2) ⟨R2.grow, fun j x e => ?_, R2.own, R2.mm, R2.nd, R1.len, R2.al, R2.ml, R2.lv⟩ (.d (.lst (SqL.of upd_same) (ra.mono st2.s)))
    obtain ⟨v, e1, e2⟩ := R1.slots j x e
    exact ⟨v, e1, e2.mono (st'.trans st2)⟩
/-- [elt for tg in iter if ..] -/
theorem ed_lcG {gv vs : List Nat} {scope : Scope} {own : List (Str × Nat)} (hi : ItD X ρ tg iter ds ρ1) (I : Nat → List D → List (Option OD) → Prop) (h0 : I 0 [] ρ1.ow)
    (hs : ∀ i d acc ow, ds[i]? = some d → I i acc ow → LcTurn X scope gv (own.map (·.2)) ρ1 tg elt ifs (I (i + 1)) d acc ow) (hz : ds.length ≤ sizeLine) {out : List D} {ow' : List (Option OD)} (hd : ∀ acc ow, I ds.length acc ow → acc = out ∧ ow = ow')
    (hlen : ∀ i acc ow, I i acc ow → acc.length ≤ i) (hgv : ∀ j ∈ gv, j ∈ own.map (·.2)) (ok : BlkOk X.N X.env.scope scope own) (hN : X.N.Nodup) (hc : X.calm = true) (hfs : ∀ x, foldedSetIterable iter X.env x = pure x) :
    ED X ρ (.ListComp elt [⟨tg, iter, ifs, 0⟩] scope pos) (.d (.lst out)) { ρ1 with ow := ow' } :=
  ed_of (pe_lc hc hN hi ok bG_ok bT_ok bE_ok hfs) fun σ H Q hq => lc_read hgv I h0 hs hz hd hlen hq
/-- name = [elt for tg in iter if ..] -/
theorem sds_lcG (i : Nat) {n : Str} {pos' spos : Pos} {gv vs : List Nat} {scope : Scope} {own : List (Str × Nat)} (hi : ItD X ρ tg iter ds ρ1) (I : Nat → List D → List (Option OD) → Prop) (h0 : I 0 [] ρ1.ow)
    (hs : ∀ i d acc ow, ds[i]? = some d → I i acc ow → LcTurn X scope gv (own.map (·.2)) ρ1 tg elt ifs (I (i + 1)) d acc ow) (hz : ds.length ≤ sizeLine) {out : List D} {ow' : List (Option OD)} (hd : ∀ acc ow, I ds.length acc ow → acc = out ∧ ow = ow')
    (hlen : ∀ i acc ow, I i acc ow → acc.length ≤ i) (h : SDs X (Env.put { ρ1 with ow := ow' } i (.d (.lst out))) r k) (hgv : ∀ j ∈ gv, j ∈ own.map (·.2)) (ok : BlkOk X.N X.env.scope scope own) (hN : X.N.Nodup) (hc : X.calm = true)
    (hi' : X.N[i]? = some n) (hyl : X.env.scope.names.lookup n = some .local) (hsw : swapsWith (.ListComp elt [⟨tg, iter, ifs, 0⟩] scope pos) (some (.Name n pos')) spos.line X.env = pure true) (hfs : ∀ x, foldedSetIterable iter X.env x = pure x) :
    SDs X ρ (.Assign [.Name n pos'] (.ListComp elt [⟨tg, iter, ifs, 0⟩] scope pos) spos :: r) k :=
  sds_cons (sd_of (ps_setLc hc hN hi' hyl hsw hi ok bG_ok bT_ok bE_ok hfs) fun Dn σ H ⟨fr, S, ad, R, kk⟩ => lc_read hgv I h0 hs hz hd hlen ⟨fr, S, ad, R, fun S1 H1 ad1 v st R1 r1 => kk.nx _ _ S1 H1 ad1 h (R1.setSl r1)⟩)
end
end DL

namespace DL
open PySem PySem.Spec PyProof.Rows L2

/-! ### what a def promises: arguments (.loc i: the i-th lent object), what the lent objects hold, the result, what they hold behind -/
abbrev FSpec := List VD → List OD → D → List OD → Prop
def OD.free : OD → Prop
  | .ins _ _ xs => ∃ ds, AllD xs ds
  | _ => True
theorem OR.free {K : PySem.W.Frag} {S : Hp} {ad ad' : List Addr} {l : Addr} {ho : HO} {o : OD} (hf : o.free) (h : OR K S ad l ho o) : OR K S ad' l ho o := by
  cases ho <;> cases o <;> first | exact h.elim | exact h | skip
  obtain ⟨h0, vs, h1, h2, h3⟩ := h
  obtain ⟨ds, ha⟩ := hf
  refine ⟨h0, vs, h1, h2, ?_⟩
  clear h1 h2
  induction ha generalizing vs with
  | nil => cases h3; exact .nil
  | cons _ ih =>
    cases h3 with
    | cons r t => exact .cons (.d r.dd) (ih _ t)
structure OwnA (K : PySem.W.Frag) (S H : Hp) (M : List Addr) (os : List OD) : Prop where
  len : M.length = os.length
  at_ : ∀ (n : Nat) o, os[n]? = some o → ∃ l ho, M[n]? = some l ∧ S l = none ∧ H l = some ho ∧ OR K S [] l ho o
def spF (K : PySem.W.Frag) (R : FSpec) : Sp := fun vs H Q _ => ∃ S M xs os rr os', Ex S H ∧ RvAll K S M vs xs ∧ OwnA K S H M os ∧ M.Nodup ∧ R xs os rr os' ∧ (∀ o ∈ os, o.free) ∧
  ∀ S' H' v, Grow M S H S' H' → Rp K S' v rr → OwnA K S' H' M os' → Q v H'
/-- the caller's n-th object is lent as the i-th -/
inductive Tr (ns : List Nat) : VD → VD → Prop
  | d (x : D) : Tr ns (.d x) (.d x)
  | loc {n i : Nat} : ns[i]? = some n → Tr ns (.loc n) (.loc i)
inductive TrAll (ns : List Nat) : List VD → List VD → Prop
  | nil : TrAll ns [] []
  | cons {x y : VD} {xs ys : List VD} : Tr ns x y → TrAll ns xs ys → TrAll ns (x :: xs) (y :: ys)
def setAll (ow : List (Option OD)) : List Nat → List OD → List (Option OD)
  | n :: ns, o :: os => (setAll ow ns os).set n (some o)
  | _, _ => ow
theorem setAll_length (ow : List (Option OD)) : ∀ ns os, (setAll ow ns os).length = ow.length
  | n :: ns, o :: os => by unfold setAll; rw [List.length_set, setAll_length ow ns os]
  | [], _ => rfl
  | _ :: _, [] => rfl
theorem setAll_in {ow : List (Option OD)} : ∀ {ns : List Nat} {os : List OD} {i n : Nat} {o : OD}, ns.Nodup → ns[i]? = some n → os[i]? = some o → n < ow.length → (setAll ow ns os)[n]? = some (some o)
  | [], _, _, _, _, _, h, _, _ => by simp at h
  | _ :: _, [], _, _, _, _, _, h, _ => by simp at h
  | m :: ns, u :: os, 0, n, o, nd, h1, h2, hl => by
    simp at h1 h2
    subst h1 h2
    unfold setAll
    exact List.getElem?_set_self (by rw [setAll_length]; exact hl)
  | m :: ns, u :: os, i + 1, n, o, nd, h1, h2, hl => by
    simp at h1 h2
    have ne : m ≠ n := fun z => (List.nodup_cons.mp nd).1 (z ▸ List.mem_of_getElem? h1)
    unfold setAll
    rw [List.getElem?_set_ne ne]
    exact setAll_in (List.nodup_cons.mp nd).2 h1 h2 hl
theorem setAll_out {ow : List (Option OD)} : ∀ {ns : List Nat} {os : List OD} {n : Nat}, n ∉ ns → (setAll ow ns os)[n]? = ow[n]?
  | [], _, _, _ => rfl
  | _ :: _, [], _, _ => rfl
  | m :: ns, u :: os, n, h => by
    unfold setAll
    simp only [List.mem_cons, not_or] at h
    rw [List.getElem?_set_ne (fun z => h.1 z.symm)]
    exact setAll_out h.2
/-- lent objects -/
structure Lend (ow : List (Option OD)) (ns : List Nat) (os : List OD) : Prop where
  len : ns.length = os.length
  nd : ns.Nodup
  at_ : ∀ (i n : Nat), ns[i]? = some n → ∃ o, ow[n]? = some (some o) ∧ os[i]? = some o ∧ o.free
theorem Lend.nil {ow : List (Option OD)} : Lend ow [] [] := ⟨rfl, by simp, fun i n h => by simp at h⟩
theorem Lend.one {ow : List (Option OD)} {n : Nat} {o : OD} (h : ow[n]? = some (some o)) (hf : o.free) : Lend ow [n] [o] := ⟨rfl, by simp, fun i m e => by
  cases i with
  | zero => simp at e; subst e; exact ⟨o, h, rfl, hf⟩
  | succ i => simp at e⟩
section
variable {K : PySem.W.Frag} {fr : Fr} {ρ : Env} {σ : L2.St} {S H : Hp} {ad : List Addr}
theorem trAll_ok {ns : List Nat} {M : List Addr} (hM : ∀ (i n : Nat), ns[i]? = some n → M[i]? = ad[n]?) : ∀ {vs : List V} {xs ys : List VD}, TrAll ns xs ys → RvAll K S ad vs xs → RvAll K S M vs ys
  | _, _, _, .nil, h => by cases h; exact .nil
  | _, _, _, .cons t ts, h => by
    cases h with
    | cons r rs =>
      refine .cons ?_ (trAll_ok hM ts rs)
      cases t with
      | d x => exact .d r.dd
      | loc e =>
        obtain ⟨l, e1, e2⟩ := r.dl
        subst e1
        exact .loc ((hM _ _ e).trans e2)
/-- the call's promise, from the caller's state -/
theorem Rel.call {R : FSpec} {ns : List Nat} {os os' : List OD} {xs ys : List VD} {vs : List V} {rr : D} {Q : VK} {E : XK} (A : Rel K fr ρ σ S H ad) (hv : RvAll K S ad vs xs) (ht : TrAll ns xs ys) (hl : Lend ρ.ow ns os) (hr : R ys os rr os') (hos : os'.length = os.length)
    (k : ∀ S' H' v, Step S ad S' ad → Rel K fr { ρ with ow := setAll ρ.ow ns os' } σ S' H' ad → Rp K S' v rr → Q v H') : spF K R vs H Q E := by
  let M : List Addr := ns.map fun n => (ad[n]?).getD 0
  have adAt : ∀ (i n : Nat), ns[i]? = some n → ∃ l, ad[n]? = some l ∧ M[i]? = some l := fun i n e => by
    obtain ⟨o, h1, _⟩ := hl.at_ i n e
    obtain ⟨l, ho, e1, _⟩ := A.own n o h1
    refine ⟨l, e1, ?_⟩
    show (ns.map fun n => (ad[n]?).getD 0)[i]? = some l
    rw [List.getElem?_map, e]
    simp [e1]
  have hM : ∀ (i n : Nat), ns[i]? = some n → M[i]? = ad[n]? := fun i n e => by
    obtain ⟨l, e1, e2⟩ := adAt i n e
    rw [e1, e2]
  have lenM : M.length = ns.length := by show (ns.map _).length = _; simp
  have ofM : ∀ a, a ∈ M → ∃ i n : Nat, ns[i]? = some n ∧ ad[n]? = some a := fun a ha => by
    obtain ⟨i, hi⟩ := List.getElem?_of_mem ha
    have hlt := (List.getElem?_eq_some_iff.mp hi).1
    rw [lenM] at hlt
    have e : ns[i]? = some ns[i] := by simp [hlt]
    refine ⟨i, ns[i], e, ?_⟩
    rw [← hM i _ e]; exact hi
  have ndM : M.Nodup := by
    refine List.pairwise_iff_getElem.mpr fun i j hi hj hij heq => ?_
    rw [lenM] at hi hj
    have ei : ns[i]? = some ns[i] := by simp [hi]
    have ej : ns[j]? = some ns[j] := by simp [hj]
    obtain ⟨l, a1, a2⟩ := adAt i _ ei
    obtain ⟨l', b1, b2⟩ := adAt j _ ej
    have a3 := (List.getElem?_eq_some_iff.mp a2).2
    have b3 := (List.getElem?_eq_some_iff.mp b2).2
    have hll : l = l' := by rw [← a3, ← b3]; exact heq
    subst hll
    have h2 := nodup_ixA A.nd a1 b1
    have := (List.getElem_inj hl.nd (h₀ := hi) (h₁ := hj)).mp h2
    omega
  refine ⟨S, M, ys, os, rr, os', A.grow.sh, trAll_ok hM ht hv, ⟨lenM.trans hl.len, fun i o e => ?_⟩, ndM, hr, fun o ho => ?_, fun S' H' v g rp oa => ?_⟩
  · have hlt := (List.getElem?_eq_some_iff.mp e).1
    rw [← hl.len] at hlt
    have en : ns[i]? = some ns[i] := by simp [hlt]
    obtain ⟨o', h1, h2, h3⟩ := hl.at_ i _ en
    rw [e] at h2; cases h2
    obtain ⟨l, ho, e1, e2, e3, e4, _⟩ := A.own _ o h1
    exact ⟨l, ho, (hM i _ en).trans e1, e2, e3, e4.free h3⟩
  · obtain ⟨i, hi⟩ := List.getElem?_of_mem ho
    have hlt := (List.getElem?_eq_some_iff.mp hi).1
    rw [← hl.len] at hlt
    obtain ⟨o', h1, h2, h3⟩ := hl.at_ i ns[i] (by simp [hlt])
    rw [hi] at h2; cases h2
    exact h3
  · have hst : Step S ad S' ad := ⟨g.s, [], by simp⟩
    have keepH : ∀ a o, H a = some o → a ∉ M → H' a = some o := g.h
    have live : ∀ a, H a ≠ none → H' a ≠ none := fun a ha => by
      by_cases hm : a ∈ M
      · obtain ⟨i, hi⟩ := List.getElem?_of_mem hm
        have hlt := (List.getElem?_eq_some_iff.mp hi).1
        rw [oa.len] at hlt
        obtain ⟨l, ho, e1, _, e3, _⟩ := oa.at_ i os'[i] (by simp [hlt])
        rw [hi] at e1; cases e1
        rw [e3]; simp
      · cases q : H a with
        | none => exact absurd q ha
        | some u => rw [keepH a u q hm]; simp
    refine k S' H' v hst ⟨⟨A.grow.s.trans g.s, g.sh, fun a o e hm => ?_, fun a h1 h2 h3 => ?_⟩, fun i x e => ?_, fun n o e => ?_, A.mm, A.nd, A.len, by rw [A.al]; exact (setAll_length _ _ _).symm, fun n hn => ?_, fun l hl' => live l (A.lv l hl')⟩ rp
    · refine keepH a o (A.grow.h a o e hm) fun ha => ?_
      obtain ⟨i, n, e1, e2⟩ := ofM a ha
      obtain ⟨u, h1, _⟩ := hl.at_ i n e1
      by_cases hnm : ρ.m ≤ n
      · obtain ⟨l, ho, f1, f2, f3, f4, f5⟩ := A.own n u h1
        rw [e2] at f1; cases f1
        rw [f5 hnm] at e; cases e
      · exact hm (A.inM e2 (by omega))
    · exact g.n a (A.grow.n a h1 h2 h3) (A.old h2) (A.ntup h2 h3)
    · obtain ⟨w, e1, e2⟩ := A.slots i x e
      exact ⟨w, e1, e2.mono hst⟩
    · by_cases hn : n ∈ ns
      · obtain ⟨i, hi⟩ := List.getElem?_of_mem hn
        have hlt := (List.getElem?_eq_some_iff.mp hi).1
        obtain ⟨u, h1, h2, h3⟩ := hl.at_ i n hi
        have hlt2 := (List.getElem?_eq_some_iff.mp h1).1
        have hio : i < os'.length := by rw [hos, ← hl.len]; exact hlt
        have e' := setAll_in (ow := ρ.ow) (os := os') hl.nd hi (show os'[i]? = some os'[i] by simp [hio]) hlt2
        have eo : (some (some o) : Option (Option OD)) = some (some os'[i]) := e.symm.trans e'
        cases eo
        obtain ⟨l, ho, f1, f2, f3, f4⟩ := oa.at_ i os'[i] (by simp [hio])
        obtain ⟨l0, ho0, g1, g2, g3, g4, g5⟩ := A.own n u h1
        rw [hM i n hi, g1] at f1; cases f1
        have f4' : OR K S' ad l ho os'[i] := by
          cases ho <;> cases q : os'[i] <;> rw [q] at f4 <;> first | exact f4.elim | exact f4 | skip
          obtain ⟨h0, vs', h1', h2', h3'⟩ := f4
          refine ⟨h0, vs', h1', h2', ?_⟩
          clear h1' h2' q
          induction h3' with
          | nil => exact .nil
          | cons r t ih => 
            refine .cons ?_ ih
            cases r with
            | d r => exact .d r
            | loc z => simp at z
        exact ⟨_, ho, g1, f2, f3, f4', g5⟩
      · have e' : ρ.ow[n]? = some (some o) := by rw [← setAll_out hn]; exact e
        obtain ⟨l, ho, e1, e2, e3, e4, e5⟩ := A.own n o e'
        have hlm : l ∉ M := fun z => by
          obtain ⟨i, n', f1, f2⟩ := ofM l z
          have := nodup_ixA A.nd e1 f2
          subst this
          exact hn (List.mem_of_getElem? f1)
        exact ⟨l, ho, e1, g.n l e2 (by rw [e3]; simp) (fun xs z => by rw [e3] at z; cases z; exact e4.ntup), keepH l ho e3 hlm, e4.mono hst, e5⟩
    · obtain ⟨o, e⟩ := A.ml n hn
      by_cases hns : n ∈ ns
      · obtain ⟨i, hi⟩ := List.getElem?_of_mem hns
        have hlt := (List.getElem?_eq_some_iff.mp hi).1
        have hio : i < os'.length := by rw [hos, ← hl.len]; exact hlt
        exact ⟨_, setAll_in hl.nd hi (show os'[i]? = some os'[i] by simp [hio]) (List.getElem?_eq_some_iff.mp e).1⟩
      · exact ⟨o, by show (setAll ρ.ow ns os')[n]? = _; rw [setAll_out hns]; exact e⟩
/-- the entry's state -/
theorem Rel.start {N : List Str} {M : List Addr} {os : List OD} {vs : List V} {xs : List VD} (hS : Ex S H) (hv : RvAll K S M vs xs) (ho : OwnA K S H M os) (hM : M.Nodup) (hn : xs.length ≤ N.length) :
    Rel K ⟨M, S, H⟩ ⟨os.length, xs.map some ++ List.replicate (N.length - xs.length) none, os.map some⟩ (start N vs) S H M := by
  have hl := hv.length
  refine ⟨⟨.refl _, hS, fun a o e _ => e, fun a h _ _ => h⟩, fun i x e => ?_, fun n o e => ?_, ⟨ho.len, by show M.take os.length = M; rw [← ho.len, List.take_length]⟩, hM, ?_, by rw [ho.len]; simp, fun n hn => ?_, fun l hl' => ?_⟩
  · have e : (xs.map some ++ List.replicate (N.length - xs.length) none)[i]? = some (some x) := e
    by_cases hi : i < xs.length
    · rw [List.getElem?_append_left (by simpa using hi), List.getElem?_map] at e
      have ex : xs[i]? = some x := by
        cases q : xs[i]? with
        | none => rw [q] at e; cases e
        | some y => rw [q] at e; simpa using e
      obtain ⟨v, e1, e2⟩ := hv.get ex
      refine ⟨v, ?_, e2⟩
      show (L2.start N vs)[i]? = _
      unfold L2.start
      rw [List.getElem?_append_left (by simpa [hl] using hi), List.getElem?_map, e1]; rfl
    · rw [List.getElem?_append_right (by simpa using hi)] at e
      have := List.mem_of_getElem? e
      have := List.eq_of_mem_replicate this
      cases this
  · have e : (os.map some)[n]? = some (some o) := e
    rw [List.getElem?_map] at e
    have eo : os[n]? = some o := by
      cases q : os[n]? with
      | none => rw [q] at e; cases e
      | some y => rw [q] at e; simpa using e
    obtain ⟨l, h', e1, e2, e3, e4⟩ := ho.at_ n o eo
    refine ⟨l, h', e1, e2, e3, ?_, fun hm => ?_⟩
    · exact OR.mono (ad := []) ⟨.refl _, M, by simp⟩ e4
    · have := (List.getElem?_eq_some_iff.mp eo).1
      have hm : os.length ≤ n := hm
      omega
  · show (xs.map some ++ List.replicate (N.length - xs.length) none).length = (L2.start N vs).length
    unfold L2.start
    simp [hl]
  · have hn : n < os.length := hn
    exact ⟨os[n], by show (os.map some)[n]? = _; rw [List.getElem?_map]; simp [hn]⟩
  · obtain ⟨i, hi⟩ := List.getElem?_of_mem hl'
    have hlt := (List.getElem?_eq_some_iff.mp hi).1
    rw [ho.len] at hlt
    obtain ⟨l', h', e1, e2, e3, e4⟩ := ho.at_ i os[i] (by simp [hlt])
    rw [hi] at e1; cases e1
    rw [e3]; simp
/-- the end's state -/
theorem Rel.finish {M : List Addr} {S0 H0 : Hp} {os' : List OD} (A : Rel K ⟨M, S0, H0⟩ ρ σ S H ad) (hm' : M.length = os'.length) (h : ρ.ow.take os'.length = os'.map some) (hf : ∀ o ∈ os', o.free) : OwnA K S H M os' := by
  have ml : M.length = ρ.m := A.mm.1
  have hm : ρ.m = os'.length := ml.symm.trans hm'
  refine ⟨by rw [ml, hm], fun n o e => ?_⟩
  have hlt := (List.getElem?_eq_some_iff.mp e).1
  have e' : ρ.ow[n]? = some (some o) := by
    have : (ρ.ow.take os'.length)[n]? = (os'.map some)[n]? := by rw [h]
    rw [List.getElem?_take_of_lt hlt, List.getElem?_map, e] at this
    exact this
  obtain ⟨l, ho, e1, e2, e3, e4, _⟩ := A.own n o e'
  refine ⟨l, ho, ?_, e2, e3, e4.free (hf o (List.mem_of_getElem? e))⟩
  have hM : ad.take ρ.m = M := A.mm.2
  rw [← hM, List.getElem?_take_of_lt (by rw [hm]; exact hlt)]
  exact e1
end
/-- the state in which a def's body starts -/
def env0 (N : List Str) (xs : List VD) (os : List OD) : Env := ⟨os.length, xs.map some ++ List.replicate (N.length - xs.length) none, os.map some⟩
/-- what its body must reach -/
def kn0 (n : Nat) (r : D) (os' : List OD) : Kn := { nx := fun ρ => r = .non ∧ ρ.ow.take n = os'.map some, rt := fun d ow => d = r ∧ ow.take n = os'.map some }
section
variable {P : Program} {w : World} {K : PySem.W.Frag} {mg : Str → Option Value} {base : Heap} {x qual : Str} {params : Arguments} {body : List Stmt} {scope : Scope} {f : Addr} {fd : FuncData} {N ps : List Str} {j : Nat} {R : FSpec}
/-- the reading of a body -/
theorem body_read {N : List Str} {os os' : List OD} {vs : List V} {xs : List VD} {rr : D} {H : Hp} {Q : VK} {S : Hp} {M : List Addr} (hS : Ex S H) (hv : RvAll K S M vs xs) (ho : OwnA K S H M os) (hM : M.Nodup) (hn : xs.length ≤ N.length) (hf : ∀ o ∈ os', o.free) (hl : os'.length = os.length)
    (k : ∀ S' H' v, Grow M S H S' H' → Rp K S' v rr → OwnA K S' H' M os' → Q v H') : tS K (env0 N xs os) (kn0 os.length rr os') { nx := fun _ H' => Q .non H', rt := Q } (start N vs) H := by
  refine ⟨⟨M, S, H⟩, S, M, Rel.start hS hv ho hM hn, fun ρ σ S' H' ad' hk A => ?_, fun d ρ σ S' H' ad' v hk A rp => ?_, fun ρ σ S' H' ad' hk A => hk.elim, fun ρ σ S' H' ad' hk A => hk.elim, fun _ _ _ _ _ _ _ z => z.elim⟩
  · obtain ⟨e, h1⟩ := hk
    subst e
    exact k S' H' _ A.grow .non (A.finish (ho.len.trans hl.symm) (by rw [hl]; exact h1) hf)
  · obtain ⟨e, h1⟩ := hk
    subst e
    exact k S' H' v A.grow rp (A.finish (ho.len.trans hl.symm) (by rw [hl]; exact h1) hf)
/-- a def keeps its promise -/
theorem fn_D (F : FunD K x qual params body scope [] [] f fd) (sc : FnScope N ps scope) (hb : Binds K fd ps []) (hlen : ∀ xs os r os', R xs os r os' → xs.length = ps.length ∧ os'.length = os.length ∧ ∀ o ∈ os', o.free)
    (hbody : ∀ (cdv : Value) (A : Around) (outer : List PySem.Env) (s : Shared) (H : Hp) (E : XK), Room j (A.deeper (envOfC qual scope s.heap.objs.size f cdv)) → ∀ xs os r os', R xs os r os' → (∀ o ∈ os, o.free) →
      SDs (cxOf CX0 P w K mg base N qual scope f cdv A outer s H E).nox (env0 N xs os) body (kn0 os.length r os')) : FnR P w K mg base CX0 (j + 1) f (spF K R) := by
  have F1 : FnOk P w K mg base CX0 (j + 1) f fd ps (spF K R) := by
    refine F.ok sc (fun vs H Q E h => ?_) (fun cdv A outer s H vs Q E hr h => ?_)
    · obtain ⟨S, M, xs, os, rr, os', _, hv, _, _, h5, _⟩ := h
      rw [hv.length]; exact (hlen _ _ _ _ h5).1
    · obtain ⟨S, M, xs, os, rr, os', h1, hv, ho, hM, h5, hf, k⟩ := h
      obtain ⟨l1, l2, l3⟩ := hlen _ _ _ _ h5
      refine ⟨_, (hbody cdv A outer s H E hr xs os rr os' h5 hf).nox, body_read h1 hv ho hM ?_ l3 l2 k⟩
      have := congrArg List.length sc.pre
      rw [List.length_take] at this
      omega
  have F2 := F1.raw hb (dvs := []) .nil
  refine F2.imp fun vs H Q E h => ?_
  rw [List.append_nil]; exact h
end
end DL

namespace DL
open PySem PySem.Spec PyProof.Rows L2

/-! ### calls of defs -/
theorem pe_callR {X : Cx} {k : Nat} {f : Addr} {x : Str} {sp : Sp} {E : XK} {e : Expr} {es : List Expr} {t : TA} {p pos : Pos} (F : FnR X.prog X.w X.K X.mg X.base CX0 k f sp) (hr : Room k X.A) (hg : Gl X x) (hm : X.mg x = some (.ref f)) (hk : PySem.W.keepIn X.K (.ref f) = true)
    (ha : PA X (e :: es) t) (hdb : (x == ("__debug__" : Str)) = false) (he : starEach (e :: es) X.env = (false, eval e X.env) :: starEach es X.env) (hpl : (backTo pos (starEach es X.env)).any (·.1) = false) :
    PE X (.Call (.Name x p) (e :: es) [] pos) (fun σ H Q => t σ H fun vs H1 => sp vs H1 Q E) := by
  refine ⟨fun pins s σ H Q I h => ?_⟩
  refine wpAny_Call_Name_kw (ld_glob I hg hm ?_ hdb)
  refine PySem.W.callWith_K (h₀ := X.base) I.ok.mod.kin hk (thn (ha.run pos pins s σ H _ I h) fun us s1 ⟨vs, H1, I1, r, q⟩ => ⟨I1.kIn, ?_⟩) he hpl
  exact wpAny_call (run_fnR (E := E) F hr (fun _ _ _ _ _ _ _ h => h.elim) I1 r q)
/-- a def of the module that may be called here -/
structure CGs (P : Program) (w : World) (K : PySem.W.Frag) (mg : Str → Option Value) (base : Heap) (A : Around) (x : Str) (R : FSpec) : Prop where
  ex : ∃ f j, FnR P w K mg base CX0 j f (spF K R) ∧ Room j A ∧ mg x = some (.ref f) ∧ PySem.W.keepIn K (.ref f) = true
abbrev CG (X : Cx) : Str → FSpec → Prop := CGs X.prog X.w X.K X.mg X.base X.A
/-- a method of the class at C -/
structure CMs (P : Program) (w : World) (K : PySem.W.Frag) (mg : Str → Option Value) (base : Heap) (A : Around) (C : Addr) (m : Str) (R : FSpec) : Prop where
  cl : Cls K C
  ex : ∃ f j, FnR P w K mg base CX0 j f (spF K R) ∧ Room j A ∧ Meth K C m f
section
variable {X : Cx} {ρ ρ' ρ1 ρ2 ρ3 : Env} {e a b c tg iter elt : Expr} {es rest ifs : List Expr} {x y z : VD} {xs ys : List VD} {pos pp apos : Pos} {p q : Bool} {st : Stmt} {r body orelse : List Stmt} {k : Kn} {ds : List D} {n m : Str} {R : FSpec}
theorem AllD.tr {ns : List Nat} : ∀ {xs : List VD} {ds : List D}, AllD xs ds → TrAll ns xs xs
  | _, _, .nil => .nil
  | _, _, .cons h => .cons (.d _) h.tr
/-- f(e, ..): some of the arguments are lent objects -/
theorem ed_callL {ns : List Nat} {os os' : List OD} {rr : D} (C : CG X n R) (ha : AD X ρ (e :: es) xs ρ1) (ht : TrAll ns xs ys) (hl : Lend ρ1.ow ns os) (hR : R ys os rr os') (hos : os'.length = os.length) (hg : Gl X n) (hdb : (n == ("__debug__" : Str)) = false := by decide)
    (he : starEach (e :: es) X.env = (false, eval e X.env) :: starEach es X.env := by rfl) (hpl : (backTo pos (starEach es X.env)).any (·.1) = false := by rfl) :
    ED X ρ (.Call (.Name n pp) (e :: es) [] pos) (.d rr) { ρ1 with ow := setAll ρ1.ow ns os' } := by
  obtain ⟨f, j, F, hr, hm, hk⟩ := C.ex
  refine ed_of (pe_callR (E := E0) F hr hg hm hk ha hdb he hpl) fun σ H Q ⟨fr, S, ad, A, kk⟩ => ⟨fr, S, ad, A, fun S1 H1 ad1 vs st1 A1 r1 => ?_⟩
  exact A1.call r1 ht hl hR hos fun S' H' v st' A' rp => kk S' H' ad1 v (st1.trans st') A' (.d rp)
/-- f(e, ..) of data -/
theorem ed_call {rr : D} (C : CG X n R) (ha : AD X ρ (e :: es) xs ρ1) (hd : AllD xs ds) (hR : R xs [] rr []) (hg : Gl X n) (hdb : (n == ("__debug__" : Str)) = false := by decide)
    (he : starEach (e :: es) X.env = (false, eval e X.env) :: starEach es X.env := by rfl) (hpl : (backTo pos (starEach es X.env)).any (·.1) = false := by rfl) :
    ED X ρ (.Call (.Name n pp) (e :: es) [] pos) (.d rr) ρ1 := ed_callL (ns := []) (os' := []) C ha hd.tr Lend.nil hR rfl hg hdb he hpl
/-! ### fields -/
theorem lookup_zip {α : Type} : ∀ {ns : List Str} {vs : List α} {i : Nat} {f : Str} {v : α}, ns.Nodup → ns[i]? = some f → vs[i]? = some v → (ns.zip vs).lookup f = some v
  | [], _, _, _, _, _, h, _ => by simp at h
  | _ :: _, [], _, _, _, _, _, h => by simp at h
  | n :: ns, w :: vs, 0, f, v, _, h1, h2 => by
    simp at h1 h2
    subst h1 h2
    simp [List.lookup]
  | n :: ns, w :: vs, i + 1, f, v, nd, h1, h2 => by
    simp at h1 h2
    have ne : f ≠ n := fun z => (List.nodup_cons.mp nd).1 (z ▸ List.mem_of_getElem? h1)
    have e : (f == n) = false := by simpa using ne
    show (match f == n with | true => some w | false => (ns.zip vs).lookup f) = some v
    rw [e]
    exact lookup_zip (List.nodup_cons.mp nd).2 h1 h2
/-- e.f of an instance that is data -/
theorem ed_fld {C : Addr} {ns : List Str} {d : D} {f : Str} (i : Nat) (he : ED X ρ e (.d (.ins C ns ds)) ρ1) (c : Cls X.K C) (na : NoAttr X.K C f) (h1 : ns[i]? = some f) (h2 : ds[i]? = some d) (nd : ns.Nodup := by decide) (hb : attributeBase e f X.env (eval e X.env) = eval e X.env := by rfl) :
    ED X ρ (.Attribute e f pos) (.d d) ρ1 := ed_of (pe_fld he hb) fun σ H Q ⟨fr, S, ad, A, kk⟩ => ⟨fr, S, ad, A, fun S1 H1 ad1 v st1 A1 r1 => by
  obtain ⟨a, dx, vs, e1, e2, e3, e4⟩ := r1.dd.ins_inv
  obtain ⟨w, e5, e6⟩ := e4.getD h2
  exact ⟨a, C, dx, _, w, e1, A1.grow.sh _ _ e2, c, na, lookup_zip nd h1 e5, kk S1 H1 ad1 w st1 A1 (.d e6)⟩⟩
/-- o.f = e: a new field, the last -/
theorem putF_new : ∀ {ns : List Str} {vs : List V} {f : Str} {v : V}, ns.length = vs.length → f ∉ ns → putF f v (ns.zip vs) = (ns ++ [f]).zip (vs ++ [v])
  | [], [], _, _, _, _ => rfl
  | n :: ns, w :: vs, f, v, hl, h => by
    simp only [List.mem_cons, not_or] at h
    show (if n = f then (n, v) :: ns.zip vs else (n, w) :: putF f v (ns.zip vs)) = _
    rw [if_neg (fun z => h.1 z.symm), putF_new (by simpa using hl) h.2]
    rfl
theorem RvAll.append {K : PySem.W.Frag} {S : Hp} {ad : List Addr} : ∀ {vs ws : List V} {xs ys : List VD}, RvAll K S ad vs xs → RvAll K S ad ws ys → RvAll K S ad (vs ++ ws) (xs ++ ys)
  | _, _, _, _, .nil, h => h
  | _, _, _, _, .cons a b, h => .cons a (RvAll.append b h)
theorem RvAll.set {K : PySem.W.Frag} {S : Hp} {ad : List Addr} : ∀ {vs : List V} {xs : List VD} (i : Nat) {v : V} {x : VD}, RvAll K S ad vs xs → Rv K S ad v x → RvAll K S ad (vs.set i v) (xs.set i x)
  | _, _, _, _, _, .nil, _ => .nil
  | _, _, 0, _, _, .cons _ b, h => .cons h b
  | _, _, i + 1, _, _, .cons a b, h => .cons a (RvAll.set i b h)
theorem sds_fldN {C : Addr} {ns : List Str} {f : Str} {o : Nat} {pos' : Pos} (hv : ED X ρ e x ρ1) (ho : ED X ρ1 a (.loc o) ρ2) (hw : ρ2.ow[o]? = some (some (.ins C ns xs))) (h : SDs X { ρ2 with ow := ρ2.ow.set o (some (.ins C (ns ++ [f]) (xs ++ [x]))) } r k)
    (c : Cls X.K C) (na : NoAttr X.K C f) (hf : f ∉ ns) (hl : ns.length < 1000) (hs : swapsWith e (some (.Attribute a f pos')) pos.line X.env = pure false) : SDs X ρ (.Assign [.Attribute a f pos'] e pos :: r) k :=
  sds_cons (sd_of (ps_fld ho hv hs) fun Dn σ H ⟨fr, S, ad, A, kk⟩ => ⟨fr, S, ad, A, fun S1 H1 ad1 v st1 A1 r1 => ⟨fr, S1, ad1, A1, fun S2 H2 ad2 v2 st2 A2 r2 => by
    obtain ⟨l, hu, e1, e2, e3, e4, _⟩ := A2.own o _ hw
    obtain ⟨l', f1, f2⟩ := r2.dl
    rw [e1] at f2; cases f2
    cases hu <;> first | exact e4.elim | skip
    obtain ⟨g0, vs, g1, g2, g3⟩ := e4
    subst g0 g1
    refine ⟨l, _, _, _, f1, e3, c, na, by rw [List.length_zip, ← g2]; omega, kk.nx _ σ S2 _ ad2 h (A2.setO hw e1 ?_)⟩
    exact ⟨rfl, vs ++ [v], putF_new g2 hf, by simp [g2], g3.append (.cons (r1.mono st2) .nil)⟩⟩⟩)
/-! ### subscripts -/
theorem atI_map {K : PySem.W.Frag} {S : Hp} {vs : List V} {i : Int} {d : D} (h : RpAll K S vs ds) (e : atI ds i = some d) : ∃ v, atI vs i = some v ∧ Rp K S v d := by
  unfold atI at e ⊢
  rw [h.length]
  cases q : ixN ds.length i with
  | none => rw [q] at e; cases e
  | some j =>
    rw [q] at e
    exact h.getD e
/-- an item of a list of ours -/
theorem own_lst {K : PySem.W.Frag} {fr : Fr} {σ : L2.St} {S H : Hp} {ad : List Addr} (A : Rel K fr ρ σ S H ad) {o : Nat} (ho : ρ.ow[o]? = some (some (.lst ds))) {v : V} (hv : Rv K S ad v (.loc o)) : ∃ l vs, v = .ref l ∧ ad[o]? = some l ∧ H l = some (.lst vs) ∧ RpAll K S vs ds := by
  obtain ⟨l, hu, e1, e2, e3, e4, _⟩ := A.own o _ ho
  obtain ⟨l', f1, f2⟩ := hv.dl
  rw [e1] at f2; cases f2
  cases hu <;> first | exact e4.elim | skip
  exact ⟨l, _, f1, e1, e3, e4⟩
theorem ed_ixO {i : Int} {d : D} {o : Nat} (ha : ED X ρ a (.loc o) ρ1) (hb : ED X ρ1 b (.d (.int i)) ρ2) (ho : ρ2.ow[o]? = some (some (.lst ds))) (h : atI ds i = some d) (hs : PlainIx b := by intro _ _; rfl) : ED X ρ (.Subscript a b pos) (.d d) ρ2 :=
  ed_of (pe_ix ix_list ha hb hs) fun σ H Q hk => two_ σ H Q _ hk fun fr S ad S1 H1 ad1 v1 v2 A st r1 r2 kk => by
    obtain ⟨l, vs, e1, e2, e3, e4⟩ := own_lst A ho r1
    obtain ⟨v, e5, e6⟩ := atI_map e4 h
    exact ⟨l, vs, i, v, e1, r2.di, SqL.of e3, e5, kk S1 H1 ad1 v (.refl _ _) A (.d e6)⟩
/-- o[i] = e, a list of ours -/
theorem sds_setIx {i : Int} {j o : Nat} {d : D} {tpos : Pos} (hv : ED X ρ e (.d d) ρ1) (ho : ED X ρ1 a (.loc o) ρ2) (hi : ED X ρ2 b (.d (.int i)) ρ3) (hw : ρ3.ow[o]? = some (some (.lst ds))) (hj : ixN ds.length i = some j) (h : SDs X { ρ3 with ow := ρ3.ow.set o (some (.lst (ds.set j d))) } r k)
    (ha : ∀ v, assign (.Subscript a b tpos) X.env v = (do
      let ov ← holding [v] (eval a X.env)
      let iv ← holding [v, ov] (eval b X.env)
      standAt tpos
      holding [v, ov, iv] (setItem ov iv v)
      release [v, ov, iv] []) := by intro _; rfl)
    (hs : swapsWithSole [.Subscript a b tpos] e pos.line X.env = pure false := by rfl) (hsw : swappedStores [.Subscript a b tpos] e X.env = pure none := by rfl) (h1 : (assignEach [.Subscript a b tpos] X.env).map (·.2) = [assign (.Subscript a b tpos) X.env] := by rfl) :
    SDs X ρ (.Assign [.Subscript a b tpos] e pos :: r) k :=
  sds_cons (sd_of (ps_asg hv (pg_sub ho hi set_list ha) hs hsw h1) fun Dn σ H ⟨fr, S, ad, A, kk⟩ => ⟨fr, S, ad, A, fun S1 H1 ad1 v st1 A1 r1 => ⟨fr, S1, ad1, A1, fun S2 H2 ad2 v2 st2 A2 r2 => ⟨fr, S2, ad2, A2, fun S3 H3 ad3 v3 st3 A3 r3 => by
    obtain ⟨l, vs, e1, e2, e3, e4⟩ := own_lst A3 hw (r2.mono st3)
    refine ⟨l, vs, i, j, e1, r3.di, e3, by rw [e4.length]; exact hj, kk.nx _ σ S3 _ ad3 h (A3.setO hw e2 ?_)⟩
    exact e4.set j ((r1.mono (st2.trans st3)).dd)⟩⟩⟩)
/-- xs.append(e), a list of ours -/
theorem ed_append {d : D} {o : Nat} (ha : ED X ρ a (.loc o) ρ1) (hb : ED X ρ1 b (.d d) ρ2) (hw : ρ2.ow[o]? = some (some (.lst ds))) (hw1 : ∃ ds', ρ1.ow[o]? = some (some (.lst ds'))) (hz : ds.length < sizeLine) (hs : starEach [b] X.env = (false, eval b X.env) :: starEach [] X.env := by rfl) (hg : PE X (.Call (.Attribute a "append" apos) [b] [] pos) (tBM X.K "list" rAppend (tE X.K ρ (.loc o) ρ1) (tCons (tE X.K ρ1 (.d d) ρ2) tNil))) :
    ED X ρ (.Call (.Attribute a "append" apos) [b] [] pos) (.d .non) { ρ2 with ow := ρ2.ow.set o (some (.lst (ds ++ [d]))) } :=
  ed_of hg fun σ H Q ⟨fr, S, ad, A, kk⟩ => ⟨fr, S, ad, A, fun S1 H1 ad1 v1 st1 A1 r1 => by
    obtain ⟨ds', hw1⟩ := hw1
    obtain ⟨l, vs, e1, e2, e3, e4⟩ := own_lst A1 hw1 r1
    refine ⟨by rw [e1]; exact .inl ⟨rfl, _, SqL.of e3⟩, fr, S1, ad1, A1, fun S2 H2 ad2 v2 st2 A2 r2 => ?_⟩
    obtain ⟨l2, vs2, f1, f2, f3, f4⟩ := own_lst A2 hw (r1.mono st2)
    refine ⟨l2, vs2, v2, f1, rfl, f3, by rw [f4.length]; exact hz, kk S2 _ ad2 _ (st1.trans st2) (A2.setO hw f2 ?_) (.d .non)⟩
    exact f4.append (.cons r2.dd .nil)⟩
/-! ### built-ins -/
theorem rv1 {K : PySem.W.Frag} {S : Hp} {ad : List Addr} {vs : List V} {x : VD} (h : RvAll K S ad vs [x]) : ∃ v, vs = [v] ∧ Rv K S ad v x := by
  cases h with | cons r t => cases t; exact ⟨_, rfl, r⟩
theorem rv2 {K : PySem.W.Frag} {S : Hp} {ad : List Addr} {vs : List V} {x y : VD} (h : RvAll K S ad vs [x, y]) : ∃ v w, vs = [v, w] ∧ Rv K S ad v x ∧ Rv K S ad w y := by
  cases h with | cons r t => cases t with | cons r2 t => cases t; exact ⟨_, _, rfl, r, r2⟩
/-- a call of a built-in function by its values -/
def CBR (X : Cx) (f : Value) (ρ : Env) (xs : List VD) (x : VD) (ρ' : Env) : Prop := ∃ rr : List V → Hp → VK → Prop, CallR X f rr ∧
  ∀ fr σ S H ad vs Q, Rel X.K fr ρ σ S H ad → RvAll X.K S ad vs xs → (∀ S' H' ad' v, Step S ad S' ad' → Rel X.K fr ρ' σ S' H' ad' → Rv X.K S' ad' v x → Q v H') → rr vs H Q
theorem ed_blt {id : String} (hc : CBR X (.builtin id) ρ1 xs x ρ2) (ha : AD X ρ (e :: es) xs ρ1) (hm : X.mg n = none) (hv : bootBuiltins n = some (.builtin id)) (hg : Gl X n) (hn : n ≠ "__name__" := by decide) (hdb : (n == ("__debug__" : Str)) = false := by decide)
    (he : starEach (e :: es) X.env = (false, eval e X.env) :: starEach es X.env := by rfl) (hpl : (backTo pos (starEach es X.env)).any (·.1) = false := by rfl) : ED X ρ (.Call (.Name n pp) (e :: es) [] pos) x ρ2 := by
  obtain ⟨rr, h1, h2⟩ := hc
  exact ed_of (pe_callB h1 hg hm hv ha hn hdb he hpl) fun σ H Q ⟨fr, S, ad, A, kk⟩ => ⟨fr, S, ad, A, fun S1 H1 ad1 vs st1 A1 r1 => h2 fr σ S1 H1 ad1 vs Q A1 r1 fun S' H' ad' v st' => kk S' H' ad' v (st1.trans st')⟩
theorem ed_bty' {T : String} (hc : CBR X (.type T) ρ1 xs x ρ2) (ha : AD X ρ (e :: es) xs ρ1) (hm : X.mg n = none) (hv : bootBuiltins n = some (.type T)) (hg : Gl X n) (hn : n ≠ "__name__" := by decide) (hdb : (n == ("__debug__" : Str)) = false := by decide)
    (he : starEach (e :: es) X.env = (false, eval e X.env) :: starEach es X.env := by rfl) (hpl : (backTo pos (starEach es X.env)).any (·.1) = false := by rfl) : ED X ρ (.Call (.Name n pp) (e :: es) [] pos) x ρ2 := by
  obtain ⟨rr, h1, h2⟩ := hc
  exact ed_of (pe_callTy h1 hg hm hv ha hn hdb he hpl) fun σ H Q ⟨fr, S, ad, A, kk⟩ => ⟨fr, S, ad, A, fun S1 H1 ad1 vs st1 A1 r1 => h2 fr σ S1 H1 ad1 vs Q A1 r1 fun S' H' ad' v st' => kk S' H' ad' v (st1.trans st')⟩
theorem cb_lenO {o : Nat} (ho : ρ.ow[o]? = some (some (.lst ds))) : CBR X (.builtin "len") ρ [.loc o] (.d (.int ds.length)) ρ := ⟨_, call_len_seq, fun fr σ S H ad vs Q A r0 k => by
  obtain ⟨v, rfl, r⟩ := rv1 r0
  obtain ⟨l, ys, e1, e2, e3, e4⟩ := own_lst A ho r
  refine ⟨l, ys, by rw [e1], .inl (SqL.of e3), ?_⟩
  rw [e4.length]; exact k S H ad _ (.refl _ _) A (.d (.int _))⟩
theorem cb_intI {i : Int} : CBR X (.type "int") ρ [.d (.int i)] (.d (.int i)) ρ := ⟨_, call_int1, fun fr σ S H ad vs Q A r0 k => by
  obtain ⟨v, rfl, r⟩ := rv1 r0
  rw [r.di]
  exact .inl ⟨i, rfl, k S H ad _ (.refl _ _) A (.d (.int _))⟩⟩
theorem cb_intB {i : Bool} : CBR X (.type "int") ρ [.d (.bl i)] (.d (.int (if i then 1 else 0))) ρ := ⟨_, call_int1, fun fr σ S H ad vs Q A r0 k => by
  obtain ⟨v, rfl, r⟩ := rv1 r0
  rw [r.db]
  exact .inr ⟨i, rfl, k S H ad _ (.refl _ _) A (.d (.int _))⟩⟩
/-- tuple(list) -/
theorem cb_tupL (hz : ds.length ≤ sizeLine) : CBR X (.type "tuple") ρ [.d (.lst ds)] (.d (.tup ds)) ρ := ⟨_, call_tuple_of, fun fr σ S H ad vs Q A r0 k => by
  obtain ⟨v, rfl, r⟩ := rv1 r0
  obtain ⟨p, ys, e1, e2, e3⟩ := r.dd.lst_inv
  refine ⟨p, ys, by rw [e1], .inl ⟨ex_l A.grow.sh e2, fun l hl => ?_⟩⟩
  obtain ⟨A2, st2⟩ := A.newS (o := .tup ys) hl
  exact k _ _ ad _ st2 A2 (.d (.tup upd_same (e3.mono st2.s)))⟩
/-! ### isinstance -/
def D.tyn : D → Option String
  | .non => some "NoneType" | .bl _ => some "bool" | .int _ => some "int" | .str _ => some "str" | .byt _ => some "bytes" | .lst _ => some "list" | .tup _ => some "tuple" | .ktp _ => some "tuple" | .dic _ _ => some "dict"
  | _ => none
theorem Rp.ty_ {K : PySem.W.Frag} {S H : Hp} {v : V} {d : D} {t : String} (h : Rp K S v d) (hx : Ex S H) (e : d.tyn = some t) : TyX K H v (.type t) := by
  cases h with
  | non => cases e; exact .base .non
  | bl b => cases e; exact .base (.bl b)
  | int i => cases e; exact .base (.int i)
  | str x => cases e; exact .base (.str x)
  | byt x => cases e; exact .byt x
  | lst q _ =>
    cases e
    rcases ex_l hx q with (q | ⟨o, q⟩) | ⟨o, its, n, q1, q2, _⟩
    · exact .base (.lst q)
    · exact .base (.frz q)
    · exact .kList q1 q2
  | tup q _ => cases e; exact .base (.tup (hx _ _ q))
  | ktp q _ =>
    cases e
    rcases ex_t hx q with (q | ⟨o, q⟩) | ⟨o, its, n, q1, q2, _⟩
    · exact .base (.tup q)
    · exact .fTuple q
    · exact .kTuple q1 q2
  | ins _ _ _ => cases e
  | dic q _ _ => cases e; exact .fDict (hx _ _ q)
  | dit q _ _ => cases e
  | lam i q => cases e
  | ref a => cases e
  | ty n => cases e
theorem cb_isi {d : D} {t T : String} {bb : Bool} (ht : d.tyn = some t) (hk : kitB t T = some bb) : CBR X (.builtin "isinstance") ρ [.d d, .d (.ty T)] (.d (.bl bb)) ρ := ⟨_, call_isi, fun fr σ S H ad vs Q A r0 k => by
  obtain ⟨v, w, rfl, r1, r2⟩ := rv2 r0
  have hw : w = .ty T := by cases r2.dd; rfl
  subst hw
  exact ⟨v, _, _, _, bb, rfl, .ty T, r1.dd.ty_ A.grow.sh ht, kit_ty hk, k S H ad _ (.refl _ _) A (.d (.bl _))⟩⟩
end
end DL

namespace DL
open PySem PySem.Spec PyProof.Rows L2
/-- the slot of a name -/
def slotOf : List Str → List (Option VD) → Str → Option VD
  | m :: N, s :: sl, n => bif m == n then s else slotOf N sl n
  | _, _, _ => none
theorem slotOf_ok : ∀ {N : List Str} {sl : List (Option VD)} {n : Str} {x : VD}, slotOf N sl n = some x → ∃ i : Nat, N[i]? = some n ∧ sl[i]? = some (some x)
  | [], _, _, _, h => by cases h
  | _ :: _, [], _, _, h => by cases h
  | m :: N, s :: sl, n, x, h => by
    unfold slotOf at h
    cases q : (m == n) with
    | true =>
      rw [q] at h
      have e : m = n := eq_of_beq q
      refine ⟨0, by simp [e], ?_⟩
      simpa using h
    | false =>
      rw [q] at h
      obtain ⟨i, h1, h2⟩ := slotOf_ok (N := N) (sl := sl) h
      exact ⟨i + 1, by simpa using h1, by simpa using h2⟩
section
variable {X : Cx} {ρ ρ' ρ1 ρ2 ρ3 : Env} {e a b c tg iter elt : Expr} {es rest ifs : List Expr} {x y z : VD} {xs ys : List VD} {pos pp apos : Pos} {p q : Bool} {st : Stmt} {r body orelse : List Stmt} {k : Kn} {ds : List D} {n m : Str} {R : FSpec}
theorem ed_v (hs : slotOf X.N ρ.sl n = some x) (hv : Vis X.env.scope n) (hd : (n == ("__debug__" : Str)) = false) (hcd : (n == ("__classdict__" : Str)) = false) : ED X ρ (.Name n pos) x ρ := by
  obtain ⟨i, h1, h2⟩ := slotOf_ok hs
  exact ed_var i h2 h1 hv hd hcd
/-- a list or a tuple -/
def D.seq? : D → Option (List D)
  | .lst ds => some ds
  | .tup ds => some ds
  | .ktp ds => some ds
  | _ => none
theorem Rp.seq {K : PySem.W.Frag} {S : Hp} {v : V} {d : D} (h : Rp K S v d) (e : d.seq? = some ds) : ∃ a vs, v = .ref a ∧ (SqL K S a vs ∨ SqT K S a vs) ∧ RpAll K S vs ds := by
  cases h with
  | lst q r => cases e; exact ⟨_, _, rfl, .inl q, r⟩
  | tup q r => cases e; exact ⟨_, _, rfl, .inr (SqT.of q), r⟩
  | ktp q r => cases e; exact ⟨_, _, rfl, .inr q, r⟩
  | _ => cases e
theorem ed_ix {i : Int} {d u : D} (ha : ED X ρ a (.d u) ρ1) (hb : ED X ρ1 b (.d (.int i)) ρ2) (hu : u.seq? = some ds) (h : atI ds i = some d) (hs : PlainIx b := by intro _ _; rfl) : ED X ρ (.Subscript a b pos) (.d d) ρ2 :=
  ed_of (pe_ix ix_seq ha hb hs) fun σ H Q hk => two_ σ H Q _ hk fun fr S ad S1 H1 ad1 v1 v2 A st r1 r2 kk => by
    obtain ⟨p, vs, e1, e2, e3⟩ := r1.dd.seq hu
    obtain ⟨v, e4, e5⟩ := atI_map e3 h
    rcases e2 with e2 | e2
    · exact .inl ⟨p, vs, i, v, e1, r2.di, ex_l A.grow.sh e2, e4, kk S1 H1 ad1 v (.refl _ _) A (.d e5)⟩
    · exact .inr (.inl ⟨p, vs, i, v, e1, r2.di, ex_t A.grow.sh e2, e4, kk S1 H1 ad1 v (.refl _ _) A (.d e5)⟩)
theorem cb_len {u : D} (hu : u.seq? = some ds) : CBR X (.builtin "len") ρ [.d u] (.d (.int ds.length)) ρ := ⟨_, call_len_seq, fun fr σ S H ad vs Q A r0 k => by
  obtain ⟨v, rfl, r⟩ := rv1 r0
  obtain ⟨p, ys, e1, e2, e3⟩ := r.dd.seq hu
  refine ⟨p, ys, by rw [e1], e2.imp (ex_l A.grow.sh) (ex_t A.grow.sh), ?_⟩
  rw [e3.length]; exact k S H ad _ (.refl _ _) A (.d (.int _))⟩
theorem cb_list {u : D} (hu : u.seq? = some ds) : CBR X (.type "list") ρ [.d u] (.d (.lst ds)) ρ := ⟨_, call_list_of, fun fr σ S H ad vs Q A r0 k => by
  obtain ⟨v, rfl, r⟩ := rv1 r0
  obtain ⟨p, ys, e1, e2, e3⟩ := r.dd.seq hu
  refine ⟨p, ys, by rw [e1], e2.imp (ex_l A.grow.sh) (ex_t A.grow.sh), fun l hl => ?_⟩
  obtain ⟨A2, st2⟩ := A.newS (o := .lst ys) hl
  exact k _ _ ad _ st2 A2 (.d (.lst (SqL.of upd_same) (e3.mono st2.s)))⟩
end
end DL

namespace DL
open PySem PySem.Spec PyProof.Rows L2
/-! ### enumerate(tuple) -/
set_option maxHeartbeats 2000000 in
theorem meets_enum1 {v : Value} {ob : Obj} {Hh : Heap → Prop} (B : Begins v ob Hh) :
    Meets (Builtin.«enumerate.__new__» ⟨[.type "enumerate", v], []⟩) (fun _ R s => Hh s.heap ∧
      R (.ok (.ret (.ref (s.heap.push ob).objs.size))) { s with heap := (s.heap.push ob).push { cls := .type "enumerate", data := .fields #[.none, .bool false, .ref s.heap.objs.size, rawInt 0, .none, .none] } }) :=
  .of_wp fun prog w A R s hyp => by
    obtain ⟨hp, g, dr, tk, os⟩ := s
    obtain ⟨hyp1, hyp⟩ := hyp
    have hs1 := sub_enumerate
    have qi : ∀ {A' : Around} {E : Value → Shared → Prop} {Q : Value → Shared → Prop}, Q (.ref hp.objs.size) ⟨hp.push ob, g, dr, tk, os⟩ → wpAny (model prog w) A' (pyIter v) Q E ⟨hp, g, dr, tk, os⟩ :=
      fun q => B.iter prog w _ _ ⟨hp, g, dr, tk, os⟩ _ hyp1 q
    wp_walk using qi
    refine wpAny_stack_any fun st => wpAny_pure ?_
    split
    · rename_i cc _ _ _ _ _
      cases (cc == Value.type "enumerate")
      · wp_walk using qi
        exact ⟨_, rfl, hyp⟩
      · wp_walk using qi
        exact ⟨_, rfl, hyp⟩
    · wp_walk using qi
      exact ⟨_, rfl, hyp⟩
theorem call_enum1 {prog : Program} {w : World} {A : Around} {E : Value → Shared → Prop} {s : Shared} {v : Value} {ob : Obj} {Hh : Heap → Prop} {Q : Value → Shared → Prop} (B : Begins v ob Hh) (h1 : Hh s.heap)
    (h : ∀ h', IsEnum h' (s.heap.objs.size + 1) s.heap.objs.size 0 .none → h'.get? s.heap.objs.size = some ob → h'.objs.size = s.heap.objs.size + 2 →
      (∀ b o, s.heap.get? b = some o → h'.get? b = some o) → Q (.ref (s.heap.objs.size + 1)) { s with heap := h' }) :
    wpAny (model prog w) A (call (.type "enumerate") [v]) Q E s := by
  refine callType_new F.called_enumerate (by decide) (F.typeCall_enumerate_1 _) (F.newCall_enumerate_1 _) (fun obj => F.args_object_init_2 obj _) F.entry_enumerate_new
    (meets_enum1 B) ⟨h1, ?_⟩
  have sz1 : (s.heap.push ob).objs.size = s.heap.objs.size + 1 := Heap.size_push ..
  show _ ∧ _
  rw [sz1]
  let eo : Obj := { cls := .type "enumerate", data := .fields #[.none, .bool false, .ref s.heap.objs.size, rawInt 0, .none, .none] }
  have he : IsEnum ((s.heap.push ob).push eo) (s.heap.objs.size + 1) s.heap.objs.size 0 .none := by
    have := Heap.get?_push_size (s.heap.push ob) (o := eo) rfl
    rw [sz1] at this
    exact this
  exact ⟨⟨_, he, rfl⟩, h _ he (Heap.get?_push_of_some _ (Heap.get?_push_size _ B.free)) (by rw [Heap.size_push, sz1]) fun b o x => Heap.get?_push_of_some _ (Heap.get?_push_of_some _ x)⟩
/-- the tuple at a, each item in a new pair -/
def IteT (K : PySem.W.Frag) (a : Addr) : It :=
  ⟨fun i H => ∃ (xs : List V) (x : V), SqT K H a xs ∧ xs[i]? = some x, fun i H v H' => ∃ T x, v = .ref T ∧ H T = none ∧ H' = upd H T (.tup [.int (i : Nat), x]) ∧ ∀ xs, SqT K H a xs → xs[i]? = some x, fun i H => ∃ xs : List V, SqT K H a xs ∧ xs.length = i⟩
theorem turn_enumT {P : Program} {w : World} {K : PySem.W.Frag} {elts : List Expr} {kk : Nat} {tpos : Pos} (a e it : Addr) :
    Turn P w K (.Tuple elts kk tpos) (IteT K a) [e, it] e (fun i h => (∃ old, IsEnum h e it ((i : Nat) : Int) old) ∧ h.IsTupleIter it a i ∧ e ≠ it ∧ a ≠ e ∧ a ≠ it) where
  mem := by simp
  obj := fun i h st b hb => by
    obtain ⟨⟨old, he⟩, ⟨o, ho, hc, hd⟩, _⟩ := st
    have e' : b = e ∨ b = it := by simpa using hb
    rcases e' with z | z
    · subst z; exact ⟨_, he, fun v q => nomatch q⟩
    · subst z; exact ⟨o, ho, fun v q => by rw [hd] at q; cases q⟩
  keep := fun i h h' st k => by
    obtain ⟨⟨old, he⟩, hi, hne⟩ := st
    exact ⟨⟨old, k e (by simp) _ he⟩, hi.at fun o q => k it (by simp) o q, hne⟩
  item := by
    intro X hP hw hK hc i pins s σ H E I hf st hg
    subst hP hw hK
    obtain ⟨⟨old, he⟩, hit, hne, hae, hai⟩ := st
    obtain ⟨xs, x, hq, hx⟩ := hg
    obtain ⟨its, rv, ht, hz⟩ := I.tuple hq
    obtain ⟨u, hu, ru⟩ := rv.get hx
    have lt1 : e < s.heap.objs.size := Heap.lt_size he
    have lt2 : it < s.heap.objs.size := by obtain ⟨_, q, _⟩ := hit; exact Heap.lt_size q
    have dr := Draws.tuple (prog := X.prog) (w := X.w) (A := X.A.in1) (I.ok.hd hc) it a hai its.toArray
    have hin : i < its.toArray.size := by
      have := (List.getElem?_eq_some_iff.mp hu).1
      simpa using this
    refine wpAny_pyNext_enum_itemD dr he ⟨hit, ht⟩ hin hne (by simp [hne, Ne.symm hae]) fun x' h' tk hx' ho st' hT hsz hk => ?_
    have ex : x' = u := by
      have h1 : its.toArray[i]? = some x' := hx'
      have h2 : its.toArray[i]? = some u := by simpa using hu
      rw [h1] at h2; exact Option.some.inj h2
    subst ex
    refine ⟨_, rfl, wpAny_letOwnedTupleGo_enum (s := { s with heap := h', toks := tk + 1 }) ho fun h'' he' sb => ?_⟩
    have hT2 : h''.get? s.heap.objs.size = some { cls := .type "tuple", data := .seq #[.int i tk, x'] } := (sb.2 _ (Nat.ne_of_gt lt1)).trans hT
    have newp : ObjOk X.prog X.w (upd H s.heap.objs.size (.tup [.int (i : Nat), x])) h'' s.heap.objs.size (.tup [.int (i : Nat), x]) :=
      ⟨by show 2 ≤ sizeLine; decide, [.int i tk, x'], .cons ⟨_, rfl⟩ (.cons ru .nil), ⟨_, hT2, rfl, _, rfl⟩⟩
    have I1 : Inv X pins σ (upd H s.heap.objs.size (.tup [.int (i : Nat), x])) { s with heap := h'', toks := tk + 1 } :=
      I.turnedNew (ch := [e, it]) (fun b ob hb q => (sb.2 b (fun z => hb (by simp [z]))).trans (hk b ob (fun z => hb (by simp [z])) (fun z => hb (by simp [z])) q)) hf (Nat.le_refl _) newp
    refine ⟨.ref s.heap.objs.size, _, I1, rfl, ⟨_, x, rfl, I.hok.fresh (Nat.le_refl _), rfl, fun ys hy => by rw [I.tuple_inj hy hq]; exact hx⟩, ⟨⟨x', ?_⟩, st'.1.at fun o q => (sb.2 it (Ne.symm hne)).trans q, hne, hae, hai⟩, fun b hb => ?_⟩
    · have e1 : ((i + 1 : Nat) : Int) = (i : Int) + 1 := by omega
      rw [e1]; exact he'
    · have ltb : b < s.heap.objs.size := by
        have e' : b = e ∨ b = it := by simpa using hb
        rcases e' with z | z
        · subst z; exact lt1
        · subst z; exact lt2
      rw [upd_ne (Nat.ne_of_lt ltb)]
      exact (hf b hb).1
  done := by
    intro X hP hw hK hc i pins s σ H E I hf st hg
    subst hP hw hK
    obtain ⟨⟨old, he⟩, hit, hne, hae, hai⟩ := st
    obtain ⟨xs, hq, hx⟩ := hg
    obtain ⟨its, rv, ht, hz⟩ := I.tuple hq
    obtain ⟨f0, f1, f2, f3, f4, f5⟩ := hf it (by simp)
    have dr := Draws.tuple (prog := X.prog) (w := X.w) (A := X.A.in1) (I.ok.hd hc) it a hai its.toArray
    have hn : its.toArray.size = i := by have := rv.length; simp; omega
    refine wpAny_pyNext_enum_endD dr he ?_ fun h' eb => ⟨rfl, I.turned (t' := s.toks) (fun b o hb q => eb b o hb q) f0 f1 f3 f4 f5⟩
    rw [hn]
    exact ⟨hit, ht⟩
  self := fun A i s Q E st h => by
    obtain ⟨⟨_, he⟩, _⟩ := st
    exact wpAny_pyIter_enum he h
def iEnumT (K : PySem.W.Frag) (ta : TA) : TI := fun σ H R => ta σ H fun vs H1 => ∃ a xs, vs = [.ref a] ∧ SqT K H1 a xs ∧ R (IteT K a) H1
theorem pi_enumT {X : Cx} {e : Expr} {ta : TA} {p pos tpos : Pos} {elts : List Expr} {kk : Nat} (hg : Gl X "enumerate") (hm : X.mg "enumerate" = none) (ha : PA X [e] ta) (hs : starEach [e] X.env = [(false, eval e X.env)]) :
    PI X (.Tuple elts kk tpos) (.Call (.Name "enumerate" p) [e] [] pos) (iEnumT X.K ta) := by
  constructor
  intro pins s σ H R I h
  refine Call_ (ld_blt I hg hm boot_enumerate (PyProof.Rows.callWith_type1 (thn (ha.run pos pins s σ H _ I h) fun us s1 ⟨vs, H1, I1, r1, q1⟩ => ?_) hs rfl))
  obtain ⟨a, xs, ex, hq, q⟩ := q1
  subst ex
  obtain ⟨u, rfl, ru⟩ := vals1 r1
  obtain rfl : u = Value.ref a := ru
  obtain ⟨its, rv, ht, hz⟩ := I1.tuple hq
  have lta : a < s1.heap.objs.size := by obtain ⟨o, ho, _⟩ := ht; exact Heap.lt_size ho
  refine call_enum1 (begins_tuple a its.toArray) ht fun h' he hit hsz hk => wpAny_pyIter_enum he ?_
  have I2 : Inv X pins σ H1 { s1 with heap := h' } := I1.kept (t' := s1.toks) hk
  refine ⟨s1.heap.objs.size + 1, [s1.heap.objs.size + 1, s1.heap.objs.size], _, _, H1, rfl, I2, turn_enumT a (s1.heap.objs.size + 1) s1.heap.objs.size, ⟨⟨.none, he⟩, ⟨_, hit, rfl, rfl⟩, Nat.succ_ne_self _, Nat.ne_of_lt (Nat.lt_succ_of_lt lta), Nat.ne_of_lt lta⟩, fun b hb => ?_, q⟩
  have e' : b = s1.heap.objs.size + 1 ∨ b = s1.heap.objs.size := by simpa using hb
  have hle : s1.heap.objs.size ≤ b := by
    rcases e' with z | z
    · subst z; exact Nat.le_add_right _ _
    · subst z; exact Nat.le_refl _
  exact I1.fpOk hle (I1.hok.fresh hle)
/-- the pairs of places and items -/
def enumD : Nat → List D → List D
  | _, [] => []
  | n, d :: ds => .tup [.int n, d] :: enumD (n + 1) ds
theorem enumD_length : ∀ (n : Nat) (ds : List D), (enumD n ds).length = ds.length
  | _, [] => rfl
  | n, d :: ds => by simp [enumD, enumD_length (n + 1) ds]
theorem enumD_get : ∀ {n : Nat} {ds : List D} {i : Nat} {d : D}, ds[i]? = some d → (enumD n ds)[i]? = some (.tup [.int ((n + i : Nat) : Int), d])
  | _, [], _, _, h => by simp at h
  | n, d :: ds, 0, _, h => by simp at h; subst h; rfl
  | n, d :: ds, i + 1, e, h => by
    have := enumD_get (n := n + 1) (ds := ds) (i := i) (d := e) (by simpa using h)
    have e2 : n + 1 + i = n + (i + 1) := by omega
    rw [e2] at this
    simpa [enumD] using this
section
variable {X : Cx} {ρ ρ1 : Env} {e : Expr} {ds : List D} {u : D} {pos pp tpos : Pos} {elts : List Expr} {kk : Nat}
theorem yd_pair {K : PySem.W.Frag} {S0 : Hp} {vs : List V} (h : RpAll K S0 vs ds) {i : Nat} {H : Hp} {x v : V} {T : Addr} {H1 : Hp} (e1 : v = .ref T) (e2 : H T = none) (e3 : H1 = upd H T (.tup [.int (i : Nat), x])) (e4 : vs[i]? = some x) : YD K S0 (enumD 0 ds) i H v H1 := fun S e eS => by
  obtain ⟨d, h1, h2⟩ := h.get e4
  have hS : S T = none := eS.back e2
  refine ⟨_, enumD_get h1, .inr (.inl ⟨T, _, e2, e3, ?_⟩)⟩
  rw [e1, Nat.zero_add]
  exact .tup upd_same (.cons (.int _) (.cons ((h2.mono e).mono (.new hS)) .nil))
/-- for i, x in enumerate(e), e a list or a tuple -/
theorem it_enum (ha : ED X ρ e (.d u) ρ1) (hu : u.seq? = some ds) (hg : Gl X "enumerate") (hm : X.mg "enumerate" = none) (hs : starEach [e] X.env = [(false, eval e X.env)] := by rfl) :
    ItD X ρ (.Tuple elts kk tpos) (.Call (.Name "enumerate" pp) [e] [] pos) (enumD 0 ds) ρ1 := by
  have hA : AD X ρ [e] [.d u] ρ1 := ad_cons ha ad_nil (hs.trans rfl)
  cases u with
  | lst ds' =>
    cases hu
    exact it_of (pi_enum hg hm hA hs) fun σ H Q ⟨fr, S, ad, A, k⟩ => ⟨fr, S, ad, A, fun S1 H1 ad1 vs st1 A1 r1 => by
      obtain ⟨v, rfl, r⟩ := rv1 r1
      obtain ⟨a, ys, e1, e2, e3⟩ := r.dd.lst_inv
      refine ⟨a, ys, by rw [e1], ex_l A1.grow.sh e2, k S1 H1 ad1 _ st1 A1 ?_⟩
      have w := walk_enum (K := X.K) (a := a) (xs := ys)
      rw [e3.length, ← enumD_length 0] at w
      exact w.mono (fun H h => ex_l h e2) fun i H x H' _ _ ⟨T, p, q, h1, h2, h3, h4, h5⟩ => by
        cases h4
        exact yd_pair e3 h1 h2 h3 h5⟩
  | tup ds' =>
    cases hu
    exact it_of (pi_enumT hg hm hA hs) fun σ H Q ⟨fr, S, ad, A, k⟩ => ⟨fr, S, ad, A, fun S1 H1 ad1 vs st1 A1 r1 => by
      obtain ⟨v, rfl, r⟩ := rv1 r1
      obtain ⟨a, ys, e1, e2, e3⟩ := r.dd.tup_inv
      refine ⟨a, ys, by rw [e1], ex_t A1.grow.sh e2, k S1 H1 ad1 _ st1 A1 ?_⟩
      have hl : (enumD 0 ds).length = ys.length := by rw [enumD_length, e3.length]
      rw [hl]
      refine ⟨fun i H hi h => ⟨ys, ys[i], ex_t h e2, by simp [hi]⟩, fun H h => ⟨ys, ex_t h e2, rfl⟩, fun i H x H' hi h ⟨T, q, h1, h2, h3, h4⟩ => ?_⟩
      exact yd_pair e3 h1 h2 h3 (h4 ys (ex_t h e2))⟩
  | ktp ds' =>
    cases hu
    exact it_of (pi_enumT hg hm hA hs) fun σ H Q ⟨fr, S, ad, A, k⟩ => ⟨fr, S, ad, A, fun S1 H1 ad1 vs st1 A1 r1 => by
      obtain ⟨v, rfl, r⟩ := rv1 r1
      obtain ⟨a, ys, e1, e2, e3⟩ := r.dd.ktp_inv
      refine ⟨a, ys, by rw [e1], ex_t A1.grow.sh e2, k S1 H1 ad1 _ st1 A1 ?_⟩
      have hl : (enumD 0 ds).length = ys.length := by rw [enumD_length, e3.length]
      rw [hl]
      refine ⟨fun i H hi h => ⟨ys, ys[i], ex_t h e2, by simp [hi]⟩, fun H h => ⟨ys, ex_t h e2, rfl⟩, fun i H x H' hi h ⟨T, q, h1, h2, h3, h4⟩ => ?_⟩
      exact yd_pair e3 h1 h2 h3 (h4 ys (ex_t h e2))⟩
  | _ => cases hu
end
end DL

namespace DL
open PySem PySem.Spec PyProof.Rows L2
/-! ### match x: case [a, b] if guard: .. case _: .. -/
def MissV (K : PySem.W.Frag) (H : Hp) (v : V) : Prop := (∃ a xs, v = .ref a ∧ (SqL K H a xs ∨ SqT K H a xs) ∧ xs.length ≠ 2) ∨ v = .non ∨ (∃ b, v = .bl b) ∨ (∃ i, v = .int i) ∨ ∃ z, v = .str z
def tMatch2 (K : PySem.W.Frag) (i j : Nat) (te : TE) (tg : TT) (tb1 tb2 : TS) : TS := fun D σ H => te σ H fun v H1 =>
  (∃ a x y, v = .ref a ∧ (SqL K H1 a [x, y] ∨ SqT K H1 a [x, y]) ∧ tg ((σ.set i (some x)).set j (some y)) H1 fun b H2 => if b = true then tb1 D ((σ.set i (some x)).set j (some y)) H2 else tb2 D ((σ.set i (some x)).set j (some y)) H2) ∨
  (MissV K H1 v ∧ tb2 D σ H1)
theorem small63 {n : Nat} (h : n ≤ sizeLine) : (n : Int) < 2 ^ 63 := by
  rw [sizeLine_eq] at h; omega
theorem ps_match2 {X : Cx} {i j : Nat} {n1 n2 : Str} {sub g : Expr} {b1 b2 : List Stmt} {p1 p2 p3 p4 pos : Pos} {te : TE} {tg : TT} {tb1 tb2 : TS} (hc : X.calm = true) (hN : X.N.Nodup) (hi : X.N[i]? = some n1) (hj : X.N[j]? = some n2) (hx : Loc X.env.scope n1) (hy : Loc X.env.scope n2)
    (hfx : X.fn n1 = true ∨ X.env.scope.names.lookup n1 = some .local) (hfy : X.fn n2 = true ∨ X.env.scope.names.lookup n2 = some .local)
    (he : PE X sub te) (hg : PT X g tg) (h1 : PSs X b1 tb1) (h2 : PSs X b2 tb2) :
    PS X (.Match sub [⟨.MatchSequence [.MatchAs none (some n1) p1, .MatchAs none (some n2) p2] p3, some g, b1⟩, ⟨.MatchAs none none p4, none, b2⟩] pos) (tMatch2 X.K i j te tg tb1 tb2) := by
  constructor
  intro pins s σ H D I h
  refine wpAny_Match (thn (he.run pins s σ H _ I h) fun v s1 ⟨x, H1, I1, r1, q1⟩ => ?_)
  have dflt : ∀ {σ' : L2.St} {H' : Hp} {s' : Shared}, Inv X pins σ' H' s' → tb2 D σ' H' → wpAny (model X.prog X.w) X.A (matchCases [⟨.MatchAs none none p4, none, b2⟩] X.env v false) (SP X pins D) X.xe s' := by
    intro σ' H' s' I' q
    refine wpAny_matchCases_cons (wpAny_matchPattern_Capture ?_)
    show wpAny _ _ (assignInOrder [] []) _ _ _
    exact wpAny_assignInOrder_none (h2.run pins s' σ' H' D I' q)
  refine wpAny_matchCases_cons ?_
  rcases q1 with ⟨a, y, z, e1, hq, q⟩ | ⟨miss, q⟩
  · subst e1
    obtain rfl : v = Value.ref a := r1
    have fin : ∀ {u1 u2 : Value} {s2 : Shared}, Inv X pins σ H1 s2 → RelV y u1 → RelV z u2 → wpAny (model X.prog X.w) X.A (matchEach [.MatchAs none (some n1) p1, .MatchAs none (some n2) p2] X.env [u1, u2]) (fun r s₁ => match r with
          | none => wpAny (model X.prog X.w) X.A (matchCases [⟨.MatchAs none none p4, none, b2⟩] X.env (.ref a) false) (SP X pins D) X.xe s₁
          | some bs => wpAny (model X.prog X.w) X.A (assignInOrder (bs.map fun (n, _) => bindName X.env n) (bs.map (·.2))) (fun _ s₂ =>
              wpAny (model X.prog X.w) X.A (isTrue g X.env (eval g X.env))
                  (fun ok s₃ => if ok then wpAny (model X.prog X.w) X.A (execs b1 X.env) (SP X pins D) X.xe s₃ else wpAny (model X.prog X.w) X.A (matchCases [⟨.MatchAs none none p4, none, b2⟩] X.env (.ref a) false) (SP X pins D) X.xe s₃) X.xe s₂) X.xe s₁) X.xe s2 := by
      intro u1 u2 s2 I2 ry rz
      refine wpAny_matchEach_cons (wpAny_matchPattern_Capture (wpAny_matchEach_cons (wpAny_matchPattern_Capture (wpAny_matchEach_nil ?_))))
      show wpAny _ _ (assignInOrder [bindName X.env n1, bindName X.env n2] [u1, u2]) _ _ _
      refine wpAny_assignInOrder_more (wpAny_bindName (store_ok I2 hN hi hx ry (fun s3 I3 => ?_) hfx))
      refine wpAny_assignInOrder_more (wpAny_bindName (store_ok I3 hN hj hy rz (fun s4 I4 => ?_) hfy))
      refine wpAny_assignInOrder_none ?_
      refine thn (hg.run pins s4 _ H1 _ I4 q) fun bb s5 ⟨H5, I5, q5⟩ => ?_
      cases bb with
      | true => exact h1.run pins s5 _ H5 D I5 q5
      | false => exact dflt I5 q5
    rcases hq with hq | hq
    · obtain ⟨its, rv, pl, hz⟩ := I1.list hq
      obtain ⟨u1, u2, rfl, ry, rz⟩ := vals2 rv
      refine matchSeq_list_hit pl.isList (by show ((2 : Nat) : Int) < 2 ^ 63; decide) rfl ?_
      refine PySem.W.kun_itemsOf (s := { s1 with toks := s1.toks + 1 + 1 }) (items := #[u1, u2]) (I.ok.hd hc) pl.isList fun h' hx' => ?_
      exact fin (s2 := { s1 with heap := h', toks := s1.toks + 1 + 1 }) (I1.kept (h' := h') (t' := s1.toks + 1 + 1) fun b o e => hx' b o (Nat.ne_of_lt (Heap.lt_size e)) e) ry rz
    · obtain ⟨its, rv, ht, hz⟩ := I1.tuple hq
      obtain ⟨u1, u2, rfl, ry, rz⟩ := vals2 rv
      refine matchSeq_tuple_hit ht (by show ((2 : Nat) : Int) < 2 ^ 63; decide) rfl ?_
      refine unpackItems_tuple (items := #[u1, u2]) (I.ok.hd hc) ht fun h' hx' => ?_
      exact fin (s2 := { s1 with heap := h', toks := s1.toks + 1 + 1 }) (I1.kept (h' := h') (t' := s1.toks + 1 + 1) fun b o e => hx' b o (Nat.ne_of_lt (Heap.lt_size e)) e) ry rz
  · have bad : ∀ {t : Nat}, Inv X pins σ H1 { s1 with toks := t } := fun {t} => I1.tok t
    rcases miss with ⟨a, xs, e1, hq, hl⟩ | e1 | ⟨b, e1⟩ | ⟨i', e1⟩ | ⟨z, e1⟩
    · subst e1
      obtain rfl : v = Value.ref a := r1
      rcases hq with hq | hq
      · obtain ⟨its, rv, pl, hz⟩ := I1.list hq
        exact matchSeq_list_miss pl.isList (small63 (by rw [List.size_toArray, ← rv.length]; exact hz)) (by rw [List.size_toArray, ← rv.length]; exact hl) (dflt bad q)
      · obtain ⟨its, rv, ht, hz⟩ := I1.tuple hq
        exact matchSeq_tuple_miss ht (small63 (by rw [List.size_toArray, ← rv.length]; exact hz)) (by rw [List.size_toArray, ← rv.length]; exact hl) (dflt bad q)
    · subst e1
      cases (show v = Value.none from r1)
      refine wpAny_matchPattern_Sequence (wpAny_collectionFlag (T := "NoneType") rfl flag_seq_None ?_)
      exact dflt I1 q
    · subst e1
      cases (show v = Value.bool b from r1)
      refine wpAny_matchPattern_Sequence (wpAny_collectionFlag (T := "bool") rfl flag_seq_bool ?_)
      exact dflt I1 q
    · subst e1
      obtain ⟨t, rfl⟩ := (show ∃ t, v = Value.int i' t from r1)
      refine wpAny_matchPattern_Sequence (wpAny_collectionFlag (T := "int") rfl flag_seq_int ?_)
      exact dflt I1 q
    · subst e1
      obtain ⟨t, rfl⟩ := (show ∃ t, v = Value.str z t from r1)
      refine wpAny_matchPattern_Sequence (wpAny_collectionFlag (T := "str") rfl flag_seq_str ?_)
      exact dflt I1 q
section
variable {X : Cx} {ρ ρ1 ρ2 : Env} {sub g : Expr} {b1 b2 r : List Stmt} {p1 p2 p3 p4 pos : Pos} {n1 n2 : Str} {d x y : D} {ds : List D} {p : Bool} {k : Kn}
/-- it fits -/
theorem sds_matchHit (i j : Nat) (he : ED X ρ sub (.d d) ρ1) (hd : d.seq? = some [x, y]) (hg : TD X ((ρ1.put i (.d x)).put j (.d y)) g p ρ2) (h1 : p = true → SDs X ρ2 b1 { k with nx := fun ρ' => SDs X ρ' r k }) (h2 : p = false → SDs X ρ2 b2 { k with nx := fun ρ' => SDs X ρ' r k })
    (hc : X.calm = true) (hN : X.N.Nodup) (hi : X.N[i]? = some n1) (hj : X.N[j]? = some n2) (hx : Loc X.env.scope n1) (hy : Loc X.env.scope n2) (hfx : X.fn n1 = true ∨ X.env.scope.names.lookup n1 = some .local) (hfy : X.fn n2 = true ∨ X.env.scope.names.lookup n2 = some .local) :
    SDs X ρ (.Match sub [⟨.MatchSequence [.MatchAs none (some n1) p1, .MatchAs none (some n2) p2] p3, some g, b1⟩, ⟨.MatchAs none none p4, none, b2⟩] pos :: r) k := by
  refine sds_cons (sd_of (ps_match2 hc hN hi hj hx hy hfx hfy he hg (pss_any (P := fun ρ' k' => p = true ∧ ρ' = ρ2 ∧ k' = { k with nx := fun ρ' => SDs X ρ' r k }) fun ρ' k' h => ?_) (pss_any (P := fun ρ' k' => p = false ∧ ρ' = ρ2 ∧ k' = { k with nx := fun ρ' => SDs X ρ' r k }) fun ρ' k' h => ?_)) fun Dn σ H ⟨fr, S, ad, A, kk⟩ => ⟨fr, S, ad, A, fun S1 H1 ad1 v st A1 r1 => ?_⟩)
  · obtain ⟨h, rfl, rfl⟩ := h; exact h1 h
  · obtain ⟨h, rfl, rfl⟩ := h; exact h2 h
  · obtain ⟨a, vs, e1, e2, e3⟩ := r1.dd.seq hd
    cases e3 with
    | cons ra t =>
      cases t with
      | cons rb t =>
        cases t
        refine .inl ⟨a, _, _, e1, e2.imp (ex_l A1.grow.sh) (ex_t A1.grow.sh), fr, S1, ad1, (A1.setSl (.d ra)).setSl (.d rb), fun S2 H2 ad2 st2 A2 => ?_⟩
        cases p with
        | true => exact iteT ⟨ρ2, _, ⟨rfl, rfl, rfl⟩, fr, S2, ad2, A2, kk⟩
        | false => exact iteF ⟨ρ2, _, ⟨rfl, rfl, rfl⟩, fr, S2, ad2, A2, kk⟩
/-- it does not -/
def D.miss : D → Bool
  | .lst ds => ds.length != 2
  | .tup ds => ds.length != 2
  | .non => true | .bl _ => true | .int _ => true | .str _ => true
  | _ => false
theorem sds_matchMiss (he : ED X ρ sub (.d d) ρ1) (hd : d.miss = true) (h2 : SDs X ρ1 b2 { k with nx := fun ρ' => SDs X ρ' r k })
    {i j : Nat} (hc : X.calm = true) (hN : X.N.Nodup) (hi : X.N[i]? = some n1) (hj : X.N[j]? = some n2) (hx : Loc X.env.scope n1) (hy : Loc X.env.scope n2) (hfx : X.fn n1 = true ∨ X.env.scope.names.lookup n1 = some .local) (hfy : X.fn n2 = true ∨ X.env.scope.names.lookup n2 = some .local) :
    SDs X ρ (.Match sub [⟨.MatchSequence [.MatchAs none (some n1) p1, .MatchAs none (some n2) p2] p3, some g, b1⟩, ⟨.MatchAs none none p4, none, b2⟩] pos :: r) k := by
  have hg : PT X g (fun _ _ _ => False) := ⟨fun _ _ _ _ _ _ h => h.elim⟩
  have hb : PSs X b1 (fun _ _ _ => False) := ⟨fun _ _ _ _ _ _ h => h.elim⟩
  refine sds_cons (sd_of (ps_match2 hc hN hi hj hx hy hfx hfy he hg hb h2) fun Dn σ H ⟨fr, S, ad, A, kk⟩ => ⟨fr, S, ad, A, fun S1 H1 ad1 v st A1 r1 => .inr ⟨?_, fr, S1, ad1, A1, kk⟩⟩)
  have rp := r1.dd
  unfold MissV
  cases rp with
  | non => exact .inr (.inl rfl)
  | bl b => exact .inr (.inr (.inl ⟨b, rfl⟩))
  | int z => exact .inr (.inr (.inr (.inl ⟨z, rfl⟩)))
  | str z => exact .inr (.inr (.inr (.inr ⟨z, rfl⟩)))
  | lst q t =>
    have hd : (_ != 2) = true := hd
    exact .inl ⟨_, _, rfl, .inl (ex_l A1.grow.sh q), by rw [t.length]; simpa using hd⟩
  | tup q t =>
    have hd : (_ != 2) = true := hd
    exact .inl ⟨_, _, rfl, .inr (ex_t A1.grow.sh (SqT.of q)), by rw [t.length]; simpa using hd⟩
  | _ => cases hd
end
end DL

namespace DL
open PySem PySem.Spec PyProof.Rows L2
theorem relV_ni {v : V} (h : RelV v .notImplemented) : False := by
  cases v with
  | non => exact nomatch (show Value.notImplemented = Value.none from h)
  | bl b => exact nomatch (show Value.notImplemented = Value.bool b from h)
  | ref a => exact nomatch (show Value.notImplemented = Value.ref a from h)
  | ty n => exact nomatch (show Value.notImplemented = Value.type n from h)
  | int i => obtain ⟨t, z⟩ := (show ∃ t, Value.notImplemented = Value.int i t from h); cases z
  | str i => obtain ⟨t, z⟩ := (show ∃ t, Value.notImplemented = Value.str i t from h); cases z
  | byt i => obtain ⟨t, z⟩ := (show ∃ t, Value.notImplemented = Value.bytes i t from h); cases z
  | flt i => obtain ⟨t, z⟩ := (show ∃ t, Value.notImplemented = Value.float i t from h); cases z
theorem CX0_pass {X : Cx} {E : XK} : Passes CX0 X E := fun _ _ _ _ _ _ _ h => h.elim
section
variable {X : Cx} {ρ ρ' ρ1 ρ2 ρ3 : Env} {e a b c fe : Expr} {es : List Expr} {x y z : VD} {xs ys : List VD} {pos pp apos spos : Pos} {ds dt : List D} {n m : Str} {R : FSpec} {C : Addr} {ns : List Str}
/-- an instance is called: f(e, ..) -/
structure COs (P : Program) (w : World) (K : PySem.W.Frag) (mg : Str → Option Value) (base : Heap) (A : Around) (C : Addr) (R : FSpec) : Prop where
  ex : ∃ f j, FnR P w K mg base CX0 j f (spF K R) ∧ Room j A ∧ StX.CallO K C f
/-! ### len(o), o + p by own methods -/
theorem ins_inst {pins : List (Addr × Obj)} {σ : L2.St} {H : Hp} {s : Shared} {l dx : Addr} {fs : List (Str × V)} (I : Inv X pins σ H s) (h : H l = some (.ins C dx fs)) : ∃ ox od, PySem.W.InstAt s.heap l ox C od := by
  obtain ⟨mA, O, _⟩ := ins_get I.hok h
  obtain ⟨od, J, _⟩ := O.look
  exact ⟨_, _, J⟩
theorem run_in1 {pins : List (Addr × Obj)} {σ : L2.St} {H : Hp} {s : Shared} {k : Nat} {f : Addr} {sp : Sp} {E : XK} {Q : VK} {us : List Value} {vs : List V} (F : FnR X.prog X.w X.K X.mg X.base CX0 k f sp) (hr : Room (k + 1) X.A) (I : Inv X pins σ H s) (r : Vals vs us) (h : sp vs H Q E) :
    wpAny (model X.prog X.w) X.A.in1 (call (.ref f) us) (EP X pins σ Q) X.xe s := by
  refine wpAny_call (codeAny_mono (F X.A.in1 X.stack s H us vs Q E hr.in1 I.env0.in1 r h) fun r s' hq => ?_)
  cases r with
  | error e => exact hq.elim
  | ok fl =>
    cases fl with
    | ret u => exact I.after hq
    | next => exact hq.elim
    | brk => exact hq.elim
    | cont => exact hq.elim
/-- a special method of the class at C, one call deeper -/
structure CSs (P : Program) (w : World) (K : PySem.W.Frag) (mg : Str → Option Value) (base : Heap) (A : Around) (C : Addr) (m : Str) (R : FSpec) : Prop where
  ex : ∃ f j, FnR P w K mg base CX0 j f (spF K R) ∧ Room (j + 1) A ∧ PySem.W.findIn K (.ref C) m = some (some (.ref f)) ∧ PySem.W.isFn K (.ref f) = true ∧ PySem.W.selfFirst K C = true
abbrev CS (X : Cx) : Addr → Str → FSpec → Prop := CSs X.prog X.w X.K X.mg X.base X.A
def rLenO (C f : Addr) (sp : Sp) : List V → Hp → VK → Prop := fun xs H Q => ∃ l dx fs, xs = [.ref l] ∧ H l = some (.ins C dx fs) ∧ sp [.ref l] H (fun v H' => ∃ i : Int, v = .int i ∧ 0 ≤ i ∧ i < 2 ^ 63 ∧ Q (.int i) H') E0
theorem call_lenO {f : Addr} {j : Nat} {sp : Sp} (F : FnR X.prog X.w X.K X.mg X.base CX0 j f sp) (hr : Room (j + 1) X.A) (hf : PySem.W.findIn X.K (.ref C) "__len__" = some (some (.ref f))) (hi : PySem.W.isFn X.K (.ref f) = true) : CallR X (.builtin "len") (rLenO C f sp) := by
  intro pins s σ H xs us Q I r h
  obtain ⟨l, dx, fs, rfl, hl, hq⟩ := h
  obtain ⟨u, rfl, ru⟩ := vals1 r
  obtain rfl : u = Value.ref l := ru
  obtain ⟨ox, od, J⟩ := ins_inst I hl
  obtain ⟨mm, Fr0⟩ := I.fr
  refine PySem.W.len_K Fr0 I.mod.kin J hf hi (thn (run_in1 (vs := [.ref l]) F hr I (.cons rfl .nil) hq) fun u s1 ⟨v, H1, I1, rv, i, e1, e2, e3, q⟩ => ?_)
  subst e1
  obtain ⟨t, rfl⟩ := (show ∃ t, u = Value.int i t from rv)
  exact ⟨⟨e2, e3⟩, .int i, H1, I1.tok _, ⟨_, rfl⟩, q⟩
theorem cb_lenI {i : Int} (F : CS X C "__len__" R) (hR : R [.d (.ins C ns ds)] [] (.int i) []) (h0 : 0 ≤ i) (h1 : i < 2 ^ 63) : CBR X (.builtin "len") ρ [.d (.ins C ns ds)] (.d (.int i)) ρ := by
  obtain ⟨f, j, G, hr, hf, hi, _⟩ := F.ex
  refine ⟨_, call_lenO G hr hf hi, fun fr σ S H ad vs Q A r0 k => ?_⟩
  obtain ⟨v, rfl, r⟩ := rv1 r0
  obtain ⟨l, dx, ws, e1, e2, e3, e4⟩ := r.dd.ins_inv
  subst e1
  refine ⟨l, dx, _, rfl, A.grow.sh _ _ e2, ?_⟩
  refine A.call (xs := [.d (.ins C ns ds)]) (.cons r .nil) (.cons (.d _) .nil) Lend.nil hR rfl fun S' H' v' st' A' rp => ?_
  exact ⟨i, rp.int_inv, h0, h1, k S' H' ad _ st' A' (.d (.int _))⟩
def rBinO (C : Addr) (sp : Sp) : R2 := fun x y H Q => ∃ l dx fs l' dx' fs', x = .ref l ∧ y = .ref l' ∧ H l = some (.ins C dx fs) ∧ H l' = some (.ins C dx' fs') ∧ sp [x, y] H Q E0
theorem op_binO {op : Operator} {f : Addr} {j : Nat} {sp : Sp} (F : FnR X.prog X.w X.K X.mg X.base CX0 j f sp) (hr : Room j X.A) (hc : PySem.W.selfFirst X.K C = true) (hf : PySem.W.findIn X.K (.ref C) (PySem.dunder op.info.2) = some (some (.ref f))) (hi : PySem.W.isFn X.K (.ref f) = true) :
    OpR X (binaryOp op) (rBinO C sp) := by
  intro pins s σ H x y u v Q I rx ry h
  obtain ⟨l, dx, fs, l', dx', fs', rfl, rfl, hl, hl', hq⟩ := h
  obtain rfl : u = Value.ref l := rx
  obtain rfl : v = Value.ref l' := ry
  obtain ⟨ox, od, J⟩ := ins_inst I hl
  obtain ⟨ox', od', J'⟩ := ins_inst I hl'
  obtain ⟨mm, Fr0⟩ := I.fr
  refine PySem.W.binop_K Fr0 I.mod.kin J J'.type hc hf hi (thn (wpAny_call (run_fnR (E := E0) (vs := [.ref l, .ref l']) F hr CX0_pass I (.cons rfl (.cons rfl .nil)) hq)) fun w s1 ⟨v, H1, I1, rv, q⟩ => ?_)
  have hne : w ≠ .notImplemented := fun z => by subst z; exact relV_ni rv
  have fin : EP X pins σ Q w s1 := ⟨v, H1, I1, rv, q⟩
  cases w <;> first | exact absurd rfl hne | exact fin
theorem ed_binO {op : Operator} {rr : D} {ds' : List D} (F : CS X C (PySem.dunder op.info.2) R)
    (ha : ED X ρ a (.d (.ins C ns ds)) ρ1) (hb : ED X ρ1 b (.d (.ins C ns ds')) ρ2) (hR : R [.d (.ins C ns ds), .d (.ins C ns ds')] [] rr []) : ED X ρ (.BinOp a op b pos) (.d rr) ρ2 := by
  obtain ⟨f, j, G, hr, hf, hi, hc⟩ := F.ex
  exact ed_of (pe_op (op_binO G (hr.mono (Nat.le_succ j)) hc hf hi) ha hb) fun σ H Q hk => two_ σ H Q _ hk fun fr S ad S1 H1 ad1 v1 v2 A st r1 r2 kk => by
    obtain ⟨l, dx, vs, e1, e2, e3, e4⟩ := r1.dd.ins_inv
    obtain ⟨l', dx', vs', f1, f2, f3, f4⟩ := r2.dd.ins_inv
    refine ⟨l, dx, _, l', dx', _, e1, f1, A.grow.sh _ _ e2, A.grow.sh _ _ f2, ?_⟩
    exact A.call (xs := [.d (.ins C ns ds), .d (.ins C ns ds')]) (.cons r1 (.cons r2 .nil)) (.cons (.d _) (.cons (.d _) .nil)) Lend.nil hR rfl fun S' H' v' st' A' rp => kk S' H' ad1 v' st' A' (.d rp)
/-! ### making an instance -/
/-- what __init__ promises: self is the lent object, empty ahead -/
structure MKs (P : Program) (w : World) (K : PySem.W.Frag) (mg : Str → Option Value) (base : Heap) (A : Around) (C : Addr) (x : Str) (R : FSpec) : Prop where
  ex : ∃ f j, FnR P w K mg base CX0 j f (spF K R) ∧ Room (j + 1) A ∧ Mk K C f ∧ mg x = some (.ref C)
abbrev MKc (X : Cx) : Addr → Str → FSpec → Prop := MKs X.prog X.w X.K X.mg X.base X.A
/-- __init__ at the new instance -/
theorem make_sp {K : PySem.W.Frag} {fr : Fr} {σ : L2.St} {S H : Hp} {ad : List Addr} {vs : List V} {Q : VK} {o : OD} {dd : D} (A : Rel K fr ρ σ S H ad) (hv : RvAll K S ad vs xs) (hd : AllD xs ds) (hR : R (.loc 0 :: xs) [.ins C [] []] .non [o]) (ho : ODD o dd) {l dx : Addr} (h1 : H l = none) (h2 : H dx = none) (h3 : dx ≠ l)
    (k : ∀ S' H', Step S ad S' ad → Rel K fr ρ σ S' H' ad → Rp K S' (.ref l) dd → Q (.ref l) H') : spF K R (.ref l :: vs) (upd (upd H dx (.own l)) l (.ins C dx [])) (fun v H2 => v = .non ∧ Q (.ref l) H2) E0 := by
  have S1 : S l = none := A.grow.sh.back h1
  have S2 : S dx = none := A.grow.sh.back h2
  have exH : Ex H (upd (upd H dx (.own l)) l (.ins C dx [])) := (Ex.new h2).trans (Ex.new (by rw [upd_ne h3.symm]; exact h1))
  refine ⟨S, [l], .loc 0 :: xs, [.ins C [] []], .non, [o], A.grow.sh.trans exH, .cons (.loc rfl) ?_, ⟨rfl, fun n u e => ?_⟩, by simp, hR, fun u hu => ?_, fun S' H' v g rp oa => ⟨rp.non_inv, ?_⟩⟩
  · have := hd.rp hv
    clear hR
    induction hd generalizing vs with
    | nil => cases hv; exact .nil
    | cons _ ih =>
      cases hv with
      | cons r t =>
        cases this with
        | cons a b => exact .cons (.d a) (ih t b)
  · cases n with
    | zero =>
      simp at e
      subst e
      exact ⟨l, _, rfl, S1, upd_same, rfl, [], rfl, rfl, .nil⟩
    | succ n => simp at e
  · have : u = .ins C [] [] := by simpa using hu
    subst this
    exact ⟨[], .nil⟩
  · -- the new instance is data from now on
    obtain ⟨l', ho', e1, e2, e3, e4⟩ := oa.at_ 0 o rfl
    have : l' = l := by simpa using e1.symm
    subst this
    have hst : Step S' ad (upd S' l' ho') ad := ⟨.new e2, [], by simp⟩
    have hst0 : Step S ad S' ad := ⟨g.s, [], by simp⟩
    have rp' : Rp K (upd S' l' ho') (.ref l') dd := by
      have e4 : OR K (upd S' l' ho') ad l' ho' o := OR.mono (S := S') (ad := []) ⟨hst.s, ad, by simp⟩ e4
      cases ho with
      | lst ds => cases ho' <;> first | exact e4.elim | exact .lst (SqL.of upd_same) e4
      | ins C' ns hA =>
        cases ho' <;> first | exact e4.elim | skip
        obtain ⟨h0, vs, h1, h2, h3⟩ := e4
        subst h0 h1
        exact .ins upd_same h2 (hA.rp h3)
    have keep : ∀ a u, H a = some u → H' a = some u := fun a u e => g.h a u (exH a u e) (by simp; exact ne_of_none e h1)
    have none' : ∀ a, S a = none → H a ≠ none → (∀ xs, H a ≠ some (.tup xs)) → S' a = none := fun a e1 e2 e3 => by
      cases q : H a with
      | none => exact absurd q e2
      | some u => exact g.n a e1 (by rw [exH a u q]; simp) (by rw [exH a u q, ← q]; exact e3)
    have fr0 : fr.H l' = none := A.fr0 h1
    refine k (upd S' l' ho') H' (hst0.trans hst) ⟨⟨A.grow.s.trans (hst0.s.trans hst.s), fun a u e => ?_, fun a u e hm => keep a u (A.grow.h a u e hm), fun a f1 f2 f3 => ?_⟩, fun i w e => ?_, fun i u e => ?_, A.mm, A.nd, A.len, A.al, A.ml, fun a ha => ?_⟩ rp'
    · by_cases h : a = l'
      · subst h; rw [upd_same] at e; cases e; exact e3
      · rw [upd_ne h] at e; exact g.sh a u e
    · have ne : a ≠ l' := fun z => f2 (z ▸ fr0)
      rw [upd_ne ne]
      exact none' a (A.grow.n a f1 f2 f3) (A.old f2) (A.ntup f2 f3)
    · obtain ⟨v', q1, q2⟩ := A.slots i w e
      exact ⟨v', q1, q2.mono (hst0.trans hst)⟩
    · obtain ⟨l2, u2, q1, q2, q3, q4, q5⟩ := A.own i u e
      have ne : l2 ≠ l' := ne_of_none q3 h1
      exact ⟨l2, u2, q1, by rw [upd_ne ne]; exact none' l2 q2 (by rw [q3]; simp) (fun xs z => by rw [q3] at z; cases z; exact q4.ntup), keep l2 u2 q3, q4.mono (hst0.trans hst), q5⟩
    · cases q : H a with
      | none => exact absurd q (A.lv a ha)
      | some u => rw [keep a u q]; simp
/-- C(e, ..) -/
theorem ed_make {o : OD} {dd : D} (F : MKc X C n R) (ha : AD X ρ (e :: es) xs ρ1) (hd : AllD xs ds) (hR : R (.loc 0 :: xs) [.ins C [] []] .non [o]) (ho : ODD o dd) (hg : Gl X n) (hdb : (n == ("__debug__" : Str)) = false := by decide)
    (he : starEach (e :: es) X.env = (false, eval e X.env) :: starEach es X.env := by rfl) (hpl : (backTo pos (starEach es X.env)).any (·.1) = false := by rfl) : ED X ρ (.Call (.Name n pp) (e :: es) [] pos) (.d dd) ρ1 := by
  obtain ⟨f, j, G, hr, hM, hm⟩ := F.ex
  exact ed_of (StX.pe_makeR (E := E0) hM G hr hg hm CX0_pass ha hdb he hpl) fun σ H Q ⟨fr, S, ad, A, kk⟩ => ⟨fr, S, ad, A, fun S1 H1 ad1 vs st1 A1 r1 l dx h1 h2 h3 =>
    make_sp A1 r1 hd hR ho h1 h2 h3 fun S' H' st' A' rp => kk S' H' ad1 _ (st1.trans st') A' (.d rp)⟩
/-- C() -/
theorem pe_makeR0 {k : Nat} {f : Addr} {sp : Sp} (M : Mk X.K C f) (F : FnR X.prog X.w X.K X.mg X.base CX0 k f sp) (hr : Room (k + 1) X.A) (hg : Gl X n) (hm : X.mg n = some (.ref C)) (hdb : (n == ("__debug__" : Str)) = false) : PE X (.Call (.Name n pp) [] [] pos) (StX.tMakeR C sp E0 tNil) := by
  constructor
  intro pins s σ H Q I h
  refine wpAny_Call_Name_kw (ld_glob I hg hm ?_ hdb)
  exact PySem.W.callWith_K0 I.kIn M.kp (StX.run_makeR (E := E0) (us := []) (vs := []) M F hr CX0_pass I .nil h)
theorem ed_make0 {o : OD} {dd : D} (F : MKc X C n R) (hR : R [.loc 0] [.ins C [] []] .non [o]) (ho : ODD o dd) (hg : Gl X n) (hdb : (n == ("__debug__" : Str)) = false := by decide) : ED X ρ (.Call (.Name n pp) [] [] pos) (.d dd) ρ := by
  obtain ⟨f, j, G, hr, hM, hm⟩ := F.ex
  exact ed_of (pe_makeR0 hM G hr hg hm hdb) fun σ H Q ⟨fr, S, ad, A, kk⟩ l dx h1 h2 h3 =>
    make_sp A .nil .nil hR ho h1 h2 h3 fun S' H' st' A' rp => kk S' H' ad _ st' A' (.d rp)
/-- C(*e) -/
theorem pe_makeS {k : Nat} {f : Addr} {sp : Sp} {te : TE} (M : Mk X.K C f) (F : FnR X.prog X.w X.K X.mg X.base CX0 k f sp) (hr : Room (k + 1) X.A) (hg : Gl X n) (hm : X.mg n = some (.ref C)) (he : PE X e te) (hdb : (n == ("__debug__" : Str)) = false)
    (hst : starEach [.Starred e spos] X.env = [(true, eval e X.env)]) :
    PE X (.Call (.Name n pp) [.Starred e spos] [] pos) (fun σ H Q => te σ H fun y H1 => ∃ a vs, y = V.ref a ∧ (SqT X.K H1 a vs ∨ SqL X.K H1 a vs) ∧ ∀ x dx, H1 x = none → H1 dx = none → dx ≠ x →
      sp (.ref x :: vs) (upd (upd H1 dx (.own x)) x (.ins C dx [])) (fun v H2 => v = .non ∧ Q (.ref x) H2) E0) := by
  constructor
  intro pins s σ H Q I h
  refine wpAny_Call_Name_kw (ld_glob I hg hm ?_ hdb)
  refine PySem.W.callWith_S (h₀ := X.base) I.ok.mod.kin M.kp (thn (he.run pins s σ H _ I h) fun v s1 ⟨y, H1, I1, ry, a, vs, ey, hxs, q⟩ => ?_) hst
  subst ey
  obtain rfl : v = Value.ref a := ry
  exact StX.star_any I1 hxs fun us s2 I2 rv => ⟨I2.kIn, StX.run_makeR (E := E0) M F hr CX0_pass I2 rv q⟩
theorem ed_makeS {o : OD} {dd u : D} (F : MKc X C n R) (ha : ED X ρ e (.d u) ρ1) (hu : u.seq? = some ds) (hR : R (.loc 0 :: ds.map VD.d) [.ins C [] []] .non [o]) (ho : ODD o dd) (hg : Gl X n) (hdb : (n == ("__debug__" : Str)) = false := by decide)
    (hst : starEach [.Starred e spos] X.env = [(true, eval e X.env)] := by rfl) : ED X ρ (.Call (.Name n pp) [.Starred e spos] [] pos) (.d dd) ρ1 := by
  obtain ⟨f, j, G, hr, hM, hm⟩ := F.ex
  exact ed_of (pe_makeS hM G hr hg hm ha hdb hst) fun σ H Q ⟨fr, S, ad, A, kk⟩ => ⟨fr, S, ad, A, fun S1 H1 ad1 v st1 A1 r1 => by
    obtain ⟨a, vs, e1, e2, e3⟩ := r1.dd.seq hu
    refine ⟨a, vs, e1, (e2.imp (ex_l A1.grow.sh) (ex_t A1.grow.sh)).symm, fun l dx h1 h2 h3 => ?_⟩
    exact make_sp A1 (.of_d e3) (.of_map ds) hR ho h1 h2 h3 fun S' H' st' A' rp => kk S' H' ad1 _ (st1.trans st') A' (.d rp)⟩
end
end DL

namespace DL
open PySem PySem.Spec PyProof.Rows L2
/-! ### def f(a, *rest) -/
/-- the arguments behind the first are put into a tuple -/
def starR (R : FSpec) : FSpec := fun xs os r os' => ∃ (z : VD) (rest : List VD) (ds : List D), xs = z :: rest ∧ AllD rest ds ∧ ds.length ≤ sizeLine ∧ R [z, .d (.tup ds)] os r os'
section
variable {P : Program} {w : World} {K : PySem.W.Frag} {mg : Str → Option Value} {base : Heap} {x qual : Str} {params : Arguments} {body : List Stmt} {scope : Scope} {f : Addr} {fd : FuncData} {N : List Str} {j : Nat} {R : FSpec} {p1 pv : Str}
theorem fn_starD (F : FunD K x qual params body scope [] [] f fd) (sc : FnScope N [p1, pv] scope)
    (h0 : ∀ (kV doc pm : Value) (an : Option Addr) (cdv ct a : Value), bindArgs (PySem.W.fnOf x qual params body scope .none kV doc pm an cdv ct) ⟨[a], []⟩ = (newTuple [] >>= fun t => pure [(p1, a), (pv, t)]))
    (h1 : ∀ (kV doc pm : Value) (an : Option Addr) (cdv ct a r : Value) (rs : List Value), bindArgs (PySem.W.fnOf x qual params body scope .none kV doc pm an cdv ct) ⟨a :: r :: rs, []⟩ = (newTuple (r :: rs) >>= fun t => pure [(p1, a), (pv, t)]))
    (hlen : ∀ xs os r os', R xs os r os' → xs.length = 2 ∧ os'.length = os.length ∧ ∀ o ∈ os', o.free)
    (hbody : ∀ (cdv : Value) (A : Around) (outer : List PySem.Env) (s : Shared) (H : Hp) (E : XK), Room j (A.deeper (envOfC qual scope s.heap.objs.size f cdv)) → ∀ xs os r os', R xs os r os' → (∀ o ∈ os, o.free) →
      SDs (cxOf CX0 P w K mg base N qual scope f cdv A outer s H E).nox (env0 N xs os) body (kn0 os.length r os')) : FnR P w K mg base CX0 (j + 1) f (spF K (starR R)) := by
  obtain ⟨oc, od, dV, kV, doc, pm, an, cdv, ct, osl, rfl, lk, hcd, hdf, _⟩ := F.ex
  have hdV : dV = .none := by
    rcases hdf with ⟨_, e⟩ | ⟨e, _⟩
    · exact e
    · exact absurd rfl e
  subst hdV
  have G := StX.fn_star (P := P) (w := w) (mg := mg) (base := base) (k := j) (CX := CX0) (ps := [p1]) (pv := pv) (sp := spF K R) lk hcd sc StX.cxUp_none
    (StX.bind_star1 (B := fun l => bindArgs (PySem.W.fnOf x qual params body scope .none kV doc pm an cdv ct) ⟨l, []⟩) (p1 := p1) (pv := pv) (fun a => h0 kV doc pm an cdv ct a) (fun a r rs => h1 kV doc pm an cdv ct a r rs)) (fun A outer s H vs Q E hr h => ?_)
  · refine G.imp fun vs H Q E h => ?_
    obtain ⟨S, M, xs, os, rr, os', hS, hv, ho, hM, ⟨z, rest, ds, rfl, ha, hz, hR⟩, hf, k⟩ := h
    cases hv with
    | @cons v vs' _ _ rz rrest =>
      have ra := ha.rp rrest
      refine ⟨[v], vs', rfl, rfl, by rw [ra.length]; exact hz, fun p hp => ?_⟩
      have hSp : S p = none := hS.back hp
      have st : Step S M (upd S p (.tup vs')) M := ⟨.new hSp, [], by simp⟩
      refine ⟨upd S p (.tup vs'), M, [z, .d (.tup ds)], os, rr, os', hS.both, .cons (rz.mono st) (.cons (.d (.tup upd_same (ra.mono st.s))) .nil), ⟨ho.len, fun n o e => ?_⟩, hM, hR, hf, fun S' H' v' g rp oa => k S' H' v' ⟨st.s.trans g.s, g.sh, fun a o e hm => g.h a o (by rw [upd_ne (ne_of_none e hp)]; exact e) hm, fun a e1 e2 e3 => g.n a ?_ ?_ ?_⟩ rp oa⟩
      · obtain ⟨l, hu, e1, e2, e3, e4⟩ := ho.at_ n o e
        have ne : l ≠ p := ne_of_none e3 hp
        exact ⟨l, hu, e1, by rw [upd_ne ne]; exact e2, by rw [upd_ne ne]; exact e3, OR.mono (ad := []) ⟨st.s, [], by simp⟩ e4⟩
      · have ne : a ≠ p := fun q => e2 (q ▸ hp)
        rw [upd_ne ne]; exact e1
      · exact upd_some e2
      · have ne : a ≠ p := fun q => e2 (q ▸ hp)
        rw [upd_ne ne]; exact e3
  · obtain ⟨S, M, xs, os, rr, os', hS, hv, ho, hM, h5, hf, k⟩ := h
    obtain ⟨l1, l2, l3⟩ := hlen _ _ _ _ h5
    refine ⟨_, (hbody cdv A outer s H E hr xs os rr os' h5 hf).nox, body_read hS hv ho hM ?_ l3 l2 k⟩
    have := congrArg List.length sc.pre
    rw [List.length_take] at this
    simp at this
    omega
end
/-! ### in, not in; index; slices; sorted -/
section
variable {X : Cx} {ρ ρ' ρ1 ρ2 ρ3 : Env} {e a b c fe : Expr} {es : List Expr} {x y z : VD} {xs ys : List VD} {pos pp apos spos : Pos} {ds dt : List D} {n m : Str} {R : FSpec} {C : Addr} {ns : List Str} {u : D}
theorem inV_ints {i : Int} : ∀ {l : List Int}, inV (.int i) (l.map V.int) = decide (i ∈ l)
  | [] => by simp [inV]
  | j :: l => by
    have ih := inV_ints (i := i) (l := l)
    unfold inV at ih ⊢
    rw [List.map_cons, List.any_cons, ih]
    by_cases h : j = i
    · subst h; simp [eqV]
    · have h' : ¬ i = j := fun z => h z.symm
      simp [eqV, h, h']
theorem flat_ints (l : List Int) : (l.map V.int).all flatV = true := by
  rw [List.all_map]; simp [List.all_eq_true, flatV]
theorem td_inI {neg : Bool} {op : CmpOp} {i : Int} {l : List Int} (ho : OpR X (compareOp op) (rIn X.K neg)) (ha : ED X ρ a (.d (.int i)) ρ1) (hb : ED X ρ1 b (.d u) ρ2) (hu : u.seq? = some (l.map D.int)) (hm : behindInMarks op b = false) :
    TD X ρ (.Compare a [op] [b] pos) (if neg then !decide (i ∈ l) else decide (i ∈ l)) ρ2 :=
  td_of (pt_cmpR ho ha hb hm) fun σ H Q hk => td_two σ H Q _ hk fun fr S ad S1 H1 ad1 v1 v2 A st r1 r2 Q' kk => by
    obtain ⟨p, vs, e1, e2, e3⟩ := r2.dd.seq hu
    have e4 := e3.ints
    subst e4
    refine ⟨p, _, e1, e2.imp (ex_l A.grow.sh) (ex_t A.grow.sh), by rw [r1.di]; rfl, flat_ints l, ?_⟩
    rw [r1.di, inV_ints]
    exact kk S1 H1 ad1 (.refl _ _) A
theorem td_in {i : Int} {l : List Int} (ha : ED X ρ a (.d (.int i)) ρ1) (hb : ED X ρ1 b (.d u) ρ2) (hu : u.seq? = some (l.map D.int)) (hm : behindInMarks .In b = false := by rfl) : TD X ρ (.Compare a [.In] [b] pos) (decide (i ∈ l)) ρ2 := td_inI op_in_seq ha hb hu hm
/-- xs[lo:hi] of a list -/
def cutD (ds : List D) (lo hi : Option Int) : List D := (ds.drop (HT.sIx ds.length 0 lo)).take (HT.sIx ds.length ds.length hi - HT.sIx ds.length 0 lo)
theorem cutD_ok {K : PySem.W.Frag} {S : Hp} {vs : List V} (h : RpAll K S vs ds) (lo hi : Option Int) : RpAll K S (cutV vs lo hi) (cutD ds lo hi) := by
  unfold cutV cutD
  rw [h.length]
  exact (h.drop _).take _
/-- a part of a slice -/
def PD (X : Cx) (ρ : Env) (e : Option Expr) (o : Option Int) (ρ' : Env) : Prop := PO X e (fun σ H Q => ∃ fr S ad, Rel X.K fr ρ σ S H ad ∧ ∀ S' H' ad', Step S ad S' ad' → Rel X.K fr ρ' σ S' H' ad' → Q o H')
theorem pd_none : PD X ρ none none ρ := ⟨fun pins s σ H Q I ⟨fr, S, ad, A, k⟩ => po_none.run pins s σ H Q I (k S H ad (.refl _ _) A)⟩
theorem pd_some {i : Int} (h : ED X ρ e (.d (.int i)) ρ1) : PD X ρ (some e) (some i) ρ1 := ⟨fun pins s σ H Q I ⟨fr, S, ad, A, k⟩ => (po_some h).run pins s σ H Q I ⟨fr, S, ad, A, fun S1 H1 ad1 v st1 A1 r1 => ⟨i, r1.di, k S1 H1 ad1 st1 A1⟩⟩⟩
theorem ed_slice {lo hi : Option Expr} {i j : Option Int} {p2 : Pos} (ha : ED X ρ a (.d (.lst ds)) ρ1) (hl : PD X ρ1 lo i ρ2) (hh : PD X ρ2 hi j ρ3) : ED X ρ (.Subscript a (.Slice lo hi none p2) pos) (.d (.lst (cutD ds i j))) ρ3 :=
  ed_of (pe_slice sl_list ha hl hh) fun σ H Q ⟨fr, S, ad, A, kk⟩ => ⟨fr, S, ad, A, fun S1 H1 ad1 v st1 A1 r1 => ⟨fr, S1, ad1, A1, fun S2 H2 ad2 st2 A2 => ⟨fr, S2, ad2, A2, fun S3 H3 ad3 st3 A3 => by
    obtain ⟨l, vs, e1, e2, e3⟩ := (r1.mono (st2.trans st3)).dd.lst_inv
    refine ⟨l, vs, e1, ex_l A3.grow.sh e2, fun p hp => ?_⟩
    obtain ⟨A4, st4⟩ := A3.newS (o := .lst (cutV vs i j)) hp
    exact kk _ _ ad3 _ (((st1.trans st2).trans st3).trans st4) A4 (.d (.lst (SqL.of upd_same) ((cutD_ok e3 i j).mono st4.s)))⟩⟩⟩
end
end DL

namespace DL
open PySem PySem.Spec PyProof.Rows L2
theorem allD1 {a : D} : AllD [.d a] [a] := .cons .nil
theorem allD2 {a b : D} : AllD [.d a, .d b] [a, b] := .cons allD1
theorem allD3 {a b c : D} : AllD [.d a, .d b, .d c] [a, b, c] := .cons allD2
theorem allD4 {a b c d : D} : AllD [.d a, .d b, .d c, .d d] [a, b, c, d] := .cons allD3
theorem allD5 {a b c d e : D} : AllD [.d a, .d b, .d c, .d d, .d e] [a, b, c, d, e] := .cons allD4
theorem allD6 {a b c d e f : D} : AllD [.d a, .d b, .d c, .d d, .d e, .d f] [a, b, c, d, e, f] := .cons allD5
/-! ### isinstance against a built-in class, by kinds -/
inductive Kd | non | bl | int | str | byt | lst | tup | dic
def D.kd : D → Option Kd
  | .non => some .non | .bl _ => some .bl | .int _ => some .int | .str _ => some .str | .byt _ => some .byt | .lst _ => some .lst | .tup _ => some .tup | .dic _ _ => some .dic
  | _ => none
def Kd.nm : Kd → String
  | .non => "NoneType" | .bl => "bool" | .int => "int" | .str => "str" | .byt => "bytes" | .lst => "list" | .tup => "tuple" | .dic => "dict"
theorem kd_tyn {d : D} {k : Kd} (h : d.kd = some k) : d.tyn = some k.nm := by
  cases d <;> cases h <;> rfl
def Kd.isInt : Kd → Bool | .int => true | .bl => true | _ => false
def Kd.isBool : Kd → Bool | .bl => true | _ => false
def Kd.isTup : Kd → Bool | .tup => true | _ => false
theorem kit_int : ∀ k : Kd, kitB k.nm "int" = some k.isInt := by intro k; cases k <;> decide +kernel
theorem kit_bool : ∀ k : Kd, kitB k.nm "bool" = some k.isBool := by intro k; cases k <;> decide +kernel
theorem kit_tup : ∀ k : Kd, kitB k.nm "tuple" = some k.isTup := by intro k; cases k <;> decide +kernel
section
variable {X : Cx} {ρ : Env} {d : D} {k : Kd}
end
end DL

namespace DL
open PySem PySem.Spec PyProof.Rows L2 HT
/-! ### t[::-1] of a tuple -/
section
variable {prog : Program} {w : World} {A : Around} {E : Value → Shared → Prop} {s : Shared}
end
section
variable {X : Cx} {ρ ρ' ρ1 ρ2 ρ3 : Env} {e a b c tg iter elt : Expr} {es rest ifs : List Expr} {x y z : VD} {pos : Pos} {p q : Bool} {st : Stmt} {r body orelse : List Stmt} {k : Kn} {ds ds' : List D} {u u' d d' : D}
/-- t + t' -/
theorem ed_catT (ha : ED X ρ a (.d (.tup ds)) ρ1) (hb : ED X ρ1 b (.d (.tup ds')) ρ2) (hz : ds.length + ds'.length ≤ sizeLine) : ED X ρ (.BinOp a .Add b pos) (.d (.tup (ds ++ ds'))) ρ2 :=
  ed_of (pe_op op_catA ha hb) fun σ H Q hk => two_ σ H Q _ hk fun fr S ad S1 H1 ad1 v1 v2 A st r1 r2 kk => by
    obtain ⟨l1, vs1, e1, e2, e3⟩ := r1.dd.tup_inv
    obtain ⟨l2, vs2, f1, f2, f3⟩ := r2.dd.tup_inv
    have n1 := e3.length
    have n2 := f3.length
    refine ⟨l1, l2, vs1, vs2, e1, f1, ex_t A.grow.sh e2, ex_t A.grow.sh f2, by omega, fun z => ?_, fun _ z => ?_, fun _ _ p hp => ?_⟩
    · subst z
      cases e3
      exact kk S1 H1 ad1 _ (.refl _ _) A (by rw [← f1]; exact r2)
    · subst z
      cases f3
      exact kk S1 H1 ad1 _ (.refl _ _) A (by rw [← e1, List.append_nil]; exact r1)
    · obtain ⟨A2, st2⟩ := A.newS (o := .tup (vs1 ++ vs2)) hp
      exact kk _ _ ad1 _ st2 A2 (.d (.tup upd_same ((e3.append f3).mono st2.s)))
/-! ### comprehensions that change nothing -/
def LcP (X : Cx) (scope : Scope) (gv vs : List Nat) (ρ1 : Env) (tg elt : Expr) (ifs : List Expr) (d : D) (o : Option D) : Prop :=
  ∃ ρ2 : Env, Blk X scope (fun Y => GD Y gv ⟨ρ1.m, wpE ρ1.sl vs, ρ1.ow⟩ tg (.d d) ρ2) ∧ ρ2.m = ρ1.m ∧ ρ2.ow = ρ1.ow ∧
    Blk X scope (fun Y => TDs Y ρ2 ifs o.isSome ρ2) ∧ ∀ e, o = some e → Blk X scope (fun Y => ED Y ρ2 elt (.d e) ρ2)
theorem lcP_turn {scope : Scope} {gv vs : List Nat} {o : Option D} {acc : List D} {ow : List (Option OD)} {J : List D → List (Option OD) → Prop} (h : LcP X scope gv vs ρ1 tg elt ifs d o) (how : ow = ρ1.ow) (hJ : J (acc ++ o.toList) ρ1.ow) : LcTurn X scope gv vs ρ1 tg elt ifs J d acc ow := by
  obtain ⟨⟨m2, sl2, ow2⟩, h1, hm, hw, h2, h3⟩ := h
  subst how
  cases hm
  cases hw
  refine ⟨sl2, o.isSome, ρ1.ow, h1, h2, fun hp => ?_, fun hp => ?_⟩
  · cases o with
    | none => cases hp
    | some e => exact ⟨e, ρ1.ow, h3 e rfl, hJ⟩
  · cases o with
    | none => simpa using hJ
    | some e => cases hp
theorem ed_lcP {α : Type} {xs : List α} {f : α → D} {gv : List Nat} {scope : Scope} {own : List (Str × Nat)} (hi : ItD X ρ tg iter (xs.map f) ρ1) (o : α → Option D)
    (hs : ∀ a, a ∈ xs → LcP X scope gv (own.map (·.2)) ρ1 tg elt ifs (f a) (o a)) (hz : xs.length ≤ sizeLine)
    (hgv : ∀ j ∈ gv, j ∈ own.map (·.2)) (ok : BlkOk X.N X.env.scope scope own) (hN : X.N.Nodup) (hc : X.calm = true) (hfs : ∀ x, foldedSetIterable iter X.env x = pure x) :
    ED X ρ (.ListComp elt [⟨tg, iter, ifs, 0⟩] scope pos) (.d (.lst (xs.filterMap o))) ρ1 := by
  have := ed_lcG (vs := []) (pos := pos) (elt := elt) (ifs := ifs) (gv := gv) hi (fun i acc ow => acc = (xs.take i).filterMap o ∧ ow = ρ1.ow) ⟨by simp, rfl⟩ (fun i d acc ow hd ⟨e1, e2⟩ => by
    rw [List.getElem?_map] at hd
    cases q : xs[i]? with
    | none => rw [q] at hd; cases hd
    | some a =>
      rw [q] at hd
      cases hd
      refine lcP_turn (hs a (List.mem_of_getElem? q)) e2 ⟨?_, rfl⟩
      rw [e1]
      have e3 : xs.take (i + 1) = xs.take i ++ [a] := by rw [List.take_add_one, q]; rfl
      rw [e3, List.filterMap_append]
      congr 1) (by simpa using hz) (out := xs.filterMap o) (ow' := ρ1.ow) (fun acc ow ⟨e1, e2⟩ => ⟨by rw [e1, List.length_map, List.take_length], e2⟩)
    (fun i acc ow ⟨e1, _⟩ => by rw [e1]; exact Nat.le_trans (List.length_filterMap_le _ _) (by simp; omega)) hgv ok hN hc hfs
  exact this
theorem sds_lcP (i : Nat) {n : Str} {pos' spos : Pos} {α : Type} {xs : List α} {f : α → D} {gv : List Nat} {scope : Scope} {own : List (Str × Nat)} (hi : ItD X ρ tg iter (xs.map f) ρ1) (o : α → Option D)
    (hs : ∀ a, a ∈ xs → LcP X scope gv (own.map (·.2)) ρ1 tg elt ifs (f a) (o a)) (h : SDs X (Env.put ρ1 i (.d (.lst (xs.filterMap o)))) r k) (hz : xs.length ≤ sizeLine)
    (hgv : ∀ j ∈ gv, j ∈ own.map (·.2)) (ok : BlkOk X.N X.env.scope scope own) (hN : X.N.Nodup) (hc : X.calm = true)
    (hi' : X.N[i]? = some n) (hyl : X.env.scope.names.lookup n = some .local) (hsw : swapsWith (.ListComp elt [⟨tg, iter, ifs, 0⟩] scope pos) (some (.Name n pos')) spos.line X.env = pure true) (hfs : ∀ x, foldedSetIterable iter X.env x = pure x) :
    SDs X ρ (.Assign [.Name n pos'] (.ListComp elt [⟨tg, iter, ifs, 0⟩] scope pos) spos :: r) k := by
  refine sds_lcG (gv := gv) (vs := []) i hi (fun i acc ow => acc = (xs.take i).filterMap o ∧ ow = ρ1.ow) ⟨by simp, rfl⟩ (fun i d acc ow hd ⟨e1, e2⟩ => by
    rw [List.getElem?_map] at hd
    cases q : xs[i]? with
    | none => rw [q] at hd; cases hd
    | some a =>
      rw [q] at hd
      cases hd
      refine lcP_turn (hs a (List.mem_of_getElem? q)) e2 ⟨?_, rfl⟩
      rw [e1]
      have e3 : xs.take (i + 1) = xs.take i ++ [a] := by rw [List.take_add_one, q]; rfl
      rw [e3, List.filterMap_append]
      congr 1) (by simpa using hz) (out := xs.filterMap o) (ow' := ρ1.ow) (fun acc ow ⟨e1, e2⟩ => ⟨by rw [e1, List.length_map, List.take_length], e2⟩)
    (fun i acc ow ⟨e1, _⟩ => by rw [e1]; exact Nat.le_trans (List.length_filterMap_le _ _) (by simp; omega)) h hgv ok hN hc hi' hyl hsw hfs
end
end DL

namespace DL
open PySem PySem.Spec PyProof.Rows L2
section
variable {X : Cx} {ρ ρ' ρ1 ρ2 ρ3 : Env} {e a b c tg iter elt : Expr} {es rest ifs : List Expr} {x y z : VD} {pos : Pos} {p q : Bool} {st : Stmt} {r body orelse : List Stmt} {k : Kn} {ds ds' : List D} {u u' d d' : D}
theorem ItD.to (h : ItD X ρ tg iter ds ρ1) (e1 : ds = ds') : ItD X ρ tg iter ds' ρ1 := e1 ▸ h
theorem enumD_zip {α : Type} (f : α → D) : ∀ (l : List α) (n : Nat), enumD n (l.map f) = (l.zipIdx n).map fun p => D.tup [.int (p.2 : Nat), f p.1]
  | [], n => rfl
  | a :: l, n => by
    rw [List.map_cons, List.zipIdx_cons, List.map_cons, ← enumD_zip f l (n + 1)]
    rfl
theorem ED.lst {ds : List D} (h : ED X ρ e (.d (.lst ds)) ρ1) (e1 : ds = ds') : ED X ρ e (.d (.lst ds')) ρ1 := e1 ▸ h
end
end DL

namespace DL
open PySem PySem.Spec PyProof.Rows L2
section
variable {X : Cx} {ρ ρ' ρ1 ρ2 ρ3 : Env} {e a b c tg iter elt : Expr} {es rest ifs : List Expr} {x y z : VD} {pos apos cpos : Pos} {p q : Bool} {st : Stmt} {r body orelse : List Stmt} {k : Kn} {ds ds' : List D} {u u' d d' : D}
/-- xs.append(e), a list of ours -/
theorem ed_app {d : D} {o : Nat} (ha : ED X ρ a (.loc o) ρ1) (hb : ED X ρ1 b (.d d) ρ2) (hw : ρ2.ow[o]? = some (some (.lst ds))) (hw1 : ∃ ds', ρ1.ow[o]? = some (some (.lst ds'))) (hz : ds.length < sizeLine)
    (hbase : attributeBase a "append" X.env (eval a X.env) = eval a X.env)
    (hfew : ((backTo cpos (starEach [b] X.env)).all (fun x => !x.1) && (backToKw cpos (keywordEach [] X.env)).all (fun x => x.1.isSome)
      && decide ([b].length + ([] : List Keyword).length + (if ([] : List Keyword).isEmpty then 0 else 1) < 30)) = true)
    (hline : (apos.endLine == cpos.line) = true) (hs : starEach [b] X.env = (false, eval b X.env) :: starEach [] X.env) (hplain : (backTo cpos (starEach [] X.env)).any (·.1) = false) :
    ED X ρ (.Call (.Attribute a "append" apos) [b] [] cpos) (.d .non) { ρ2 with ow := ρ2.ow.set o (some (.lst (ds ++ [d]))) } :=
  ed_append ha hb hw hw1 hz hs (pe_bm PySem.F.plainAttrs_list PySem.F.slot_list_append PySem.F.type_list_append mt_append ha (pa_cons hb pa_nil hs) hbase hfew hline hs hplain)
end
end DL

namespace DL
open PySem PySem.Spec PyProof.Rows L2
/-! ### equality of data -/
mutual
def D.py : D → PyData
  | .non => .none
  | .bl b => .bool b
  | .int i => .int i
  | .str x => .str x
  | .lst ds => .list (pyAll ds)
  | .tup ds => .tuple (pyAll ds)
  | _ => .none
def pyAll : List D → List PyData
  | [] => []
  | d :: ds => d.py :: pyAll ds
end
mutual
/-- data of None, ints, texts, lists and tuples -/
def D.ok : D → Bool
  | .non => true
  | .int _ => true
  | .str x => PyData.strOk x
  | .lst ds => okAll ds
  | .tup ds => okAll ds
  | _ => false
def okAll : List D → Bool
  | [] => true
  | d :: ds => d.ok && okAll ds
end
mutual
def D.dep : D → Nat
  | .lst ds => depAll ds + 1
  | .tup ds => depAll ds + 1
  | _ => 0
def depAll : List D → Nat
  | [] => 0
  | d :: ds => max d.dep (depAll ds)
end
theorem okAll_of : ∀ {ds : List D}, (∀ d ∈ ds, d.ok = true) → okAll ds = true
  | [], _ => rfl
  | d :: ds, h => by
    simp only [okAll, h d (by simp), okAll_of (ds := ds) fun x hx => h x (by simp [hx]), Bool.and_self]
mutual
theorem py_dep : ∀ d : D, d.py.depth ≤ d.dep
  | .non => by simp [D.py, PyData.depth]
  | .bl b => by simp [D.py, PyData.depth]
  | .int i => by simp [D.py, PyData.depth]
  | .str x => by simp [D.py, PyData.depth]
  | .byt x => by simp [D.py, PyData.depth]
  | .lst ds => by simp only [D.py, PyData.depth, D.dep]; have := pyAll_dep ds; omega
  | .tup ds => by simp only [D.py, PyData.depth, D.dep]; have := pyAll_dep ds; omega
  | .ins _ _ _ => by simp [D.py, PyData.depth]
  | .dic _ _ => by simp [D.py, PyData.depth]
  | .dit _ _ => by simp [D.py, PyData.depth]
  | .ktp _ => by simp [D.py, PyData.depth]
  | .lam _ _ => by simp [D.py, PyData.depth]
  | .ref _ => by simp [D.py, PyData.depth]
  | .ty _ => by simp [D.py, PyData.depth]
theorem pyAll_dep : ∀ ds : List D, PyData.depthAll (pyAll ds) ≤ depAll ds
  | [] => by simp [pyAll, PyData.depthAll]
  | d :: ds => by
    simp only [pyAll, PyData.depthAll, depAll]
    have := py_dep d; have := pyAll_dep ds; omega
end
mutual
theorem py_lay : ∀ d : D, d.ok = true → d.py.canLay0 = true
  | .non, _ => rfl
  | .bl b, h => by simp [D.ok] at h
  | .int i, _ => rfl
  | .str x, h => by simp only [D.ok] at h; simp only [D.py, PyData.canLay0, h]
  | .byt x, h => by simp [D.ok] at h
  | .lst ds, h => by simp only [D.ok] at h; simp only [D.py, PyData.canLay0, pyAll_lay ds h]
  | .tup ds, h => by simp only [D.ok] at h; simp only [D.py, PyData.canLay0, pyAll_lay ds h]
  | .ins _ _ _, h => by simp [D.ok] at h
  | .dic _ _, h => by simp [D.ok] at h
  | .dit _ _, h => by simp [D.ok] at h
  | .ktp _, h => by simp [D.ok] at h
  | .lam _ _, h => by simp [D.ok] at h
  | .ref _, h => by simp [D.ok] at h
  | .ty _, h => by simp [D.ok] at h
theorem pyAll_lay : ∀ ds : List D, okAll ds = true → PyData.canLayAll0 (pyAll ds) = true
  | [], _ => rfl
  | d :: ds, h => by
    simp only [okAll, Bool.and_eq_true] at h
    simp only [pyAll, PyData.canLayAll0, py_lay d h.1, pyAll_lay ds h.2, Bool.and_self]
end
theorem py_shaped {d : D} (h : d.ok = true) (hd : d.dep ≤ 64) : SeqAt.shaped d.py = true := by
  unfold SeqAt.shaped
  have := py_dep d
  rw [py_lay d h, Bool.true_and]
  exact decide_eq_true (by omega)
mutual
theorem py_eq : ∀ (d e : D), d.ok = true → e.ok = true → (PyData.eqv d.py e.py = true ↔ d = e)
  | .non, e, _, h => by cases e <;> simp_all [D.ok, D.py, PyData.eqv]
  | .int i, e, _, h => by cases e <;> simp_all [D.ok, D.py, PyData.eqv]
  | .str x, e, _, h => by cases e <;> simp_all [D.ok, D.py, PyData.eqv]
  | .lst ds, .lst es, h, h' => by
    simp only [D.ok] at h h'
    simp only [D.py, PyData.eqv, pyAll_eq ds es h h', D.lst.injEq]
  | .tup ds, .tup es, h, h' => by
    simp only [D.ok] at h h'
    simp only [D.py, PyData.eqv, pyAll_eq ds es h h', D.tup.injEq]
  | .lst ds, .non, _, _ => by simp [D.py, PyData.eqv]
  | .lst ds, .int _, _, _ => by simp [D.py, PyData.eqv]
  | .lst ds, .str _, _, _ => by simp [D.py, PyData.eqv]
  | .lst ds, .tup _, _, _ => by simp [D.py, PyData.eqv]
  | .tup ds, .non, _, _ => by simp [D.py, PyData.eqv]
  | .tup ds, .int _, _, _ => by simp [D.py, PyData.eqv]
  | .tup ds, .str _, _, _ => by simp [D.py, PyData.eqv]
  | .tup ds, .lst _, _, _ => by simp [D.py, PyData.eqv]
theorem pyAll_eq : ∀ (ds es : List D), okAll ds = true → okAll es = true → (PyData.eqvAll (pyAll ds) (pyAll es) = true ↔ ds = es)
  | [], [], _, _ => by simp [pyAll, PyData.eqvAll]
  | [], _ :: _, _, _ => by simp [pyAll, PyData.eqvAll]
  | _ :: _, [], _, _ => by simp [pyAll, PyData.eqvAll]
  | d :: ds, e :: es, h, h' => by
    simp only [okAll, Bool.and_eq_true] at h h'
    simp only [pyAll, PyData.eqvAll, Bool.and_eq_true, py_eq d e h.1 h'.1, pyAll_eq ds es h.2 h'.2, List.cons.injEq]
end
mutual
theorem Rp.dp {K : PySem.W.Frag} {S H : Hp} (e : Ex S H) : ∀ (d : D) {v : V}, d.ok = true → Rp K S v d → Dp K H v d.py
  | .non, _, _, h => by cases h; exact .non
  | .int i, _, _, h => by cases h; exact .int i
  | .str x, _, _, h => by cases h; exact .str x
  | .lst ds, _, o, h => by
    simp only [D.ok] at o
    cases h with
    | lst q r => exact .lst (ex_l e q) (RpAll.dp e ds o r)
  | .tup ds, _, o, h => by
    simp only [D.ok] at o
    cases h with
    | tup q r => exact .tup (ex_t e (SqT.of q)) (RpAll.dp e ds o r)
theorem RpAll.dp {K : PySem.W.Frag} {S H : Hp} (e : Ex S H) : ∀ (ds : List D) {vs : List V}, okAll ds = true → RpAll K S vs ds → DpAll K H vs (pyAll ds)
  | [], _, _, h => by cases h; exact .nil
  | d :: ds, _, o, h => by
    simp only [okAll, Bool.and_eq_true] at o
    cases h with
    | cons a b => exact .cons (Rp.dp e d o.1 a) (RpAll.dp e ds o.2 b)
end
section
variable {X : Cx} {ρ ρ' ρ1 ρ2 ρ3 : Env} {e a b c tg iter elt : Expr} {es rest ifs : List Expr} {x y z : VD} {pos apos cpos : Pos} {p q : Bool} {st : Stmt} {r body orelse : List Stmt} {k : Kn} {ds ds' : List D} {u u' d d' : D}
theorem ed_eqD (hu : X.A.units + 64 < cLine) (ha : ED X ρ a (.d d) ρ1) (hb : ED X ρ1 b (.d d') ρ2) (o1 : d.ok = true) (o2 : d'.ok = true) (s1 : d.dep ≤ 64) (s2 : d'.dep ≤ 64) (hp : p = true ↔ d = d') (hm : behindInMarks .Eq b = false := by rfl) : ED X ρ (.Compare a [.Eq] [b] pos) (.d (.bl p)) ρ2 :=
  ed_of (pe_cmpR (op_eqD hu) ha hb hm) fun σ H Q hk => two_ σ H Q _ hk fun fr S ad S1 H1 ad1 v1 v2 A st r1 r2 kk => by
    refine ⟨d.py, d'.py, Rp.dp A.grow.sh d o1 r1.dd, Rp.dp A.grow.sh d' o2 r2.dd, py_shaped o1 s1, py_shaped o2 s2, ?_⟩
    have e1 : PyData.eqv d.py d'.py = p := by rw [Bool.eq_iff_iff, py_eq d d' o1 o2, hp]
    rw [e1]
    exact kk S1 H1 ad1 _ (.refl _ _) A (.d (.bl _))
theorem td_eqD (hu : X.A.units + 64 < cLine) (ha : ED X ρ a (.d d) ρ1) (hb : ED X ρ1 b (.d d') ρ2) (o1 : d.ok = true) (o2 : d'.ok = true) (s1 : d.dep ≤ 64) (s2 : d'.dep ≤ 64) (hp : p = true ↔ d = d') (hm : behindInMarks .Eq b = false := by rfl) : TD X ρ (.Compare a [.Eq] [b] pos) p ρ2 :=
  td_of (pt_cmpR (op_eqD hu) ha hb hm) fun σ H Q hk => td_two σ H Q _ hk fun fr S ad S1 H1 ad1 v1 v2 A st r1 r2 Q' kk => by
    refine ⟨d.py, d'.py, Rp.dp A.grow.sh d o1 r1.dd, Rp.dp A.grow.sh d' o2 r2.dd, py_shaped o1 s1, py_shaped o2 s2, ?_⟩
    have e1 : PyData.eqv d.py d'.py = p := by rw [Bool.eq_iff_iff, py_eq d d' o1 o2, hp]
    rw [e1]
    exact kk S1 H1 ad1 (.refl _ _) A
theorem td_neD (hu : X.A.units + 64 < cLine) (ha : ED X ρ a (.d d) ρ1) (hb : ED X ρ1 b (.d d') ρ2) (o1 : d.ok = true) (o2 : d'.ok = true) (s1 : d.dep ≤ 64) (s2 : d'.dep ≤ 64) (hp : p = true ↔ d ≠ d') (hm : behindInMarks .NotEq b = false := by rfl) : TD X ρ (.Compare a [.NotEq] [b] pos) p ρ2 :=
  td_of (pt_cmpR (op_neD hu) ha hb hm) fun σ H Q hk => td_two σ H Q _ hk fun fr S ad S1 H1 ad1 v1 v2 A st r1 r2 Q' kk => by
    refine ⟨d.py, d'.py, Rp.dp A.grow.sh d o1 r1.dd, Rp.dp A.grow.sh d' o2 r2.dd, py_shaped o1 s1, py_shaped o2 s2, ?_⟩
    have e1 : (!PyData.eqv d.py d'.py) = p := by
      rw [Bool.eq_iff_iff, hp, Bool.not_eq_true', ← Bool.not_eq_true, py_eq d d' o1 o2]
    rw [e1]
    exact kk S1 H1 ad1 (.refl _ _) A
end
end DL

namespace DL
open PySem PySem.Spec PyProof.Rows L2
/-! ### sorted(set(l)), l a list of ints (turned from the library's rule for tuples) -/
section
variable {P : Program} {w : World} {A : Around} {E : Value → Shared → Prop} {s : Shared}
end
section
variable {X : Cx} {ρ ρ' ρ1 ρ2 ρ3 : Env} {e a b c tg iter elt : Expr} {pos p1 p2 p3 : Pos}
end
end DL

namespace DL
open PySem PySem.Spec PyProof.Rows L2
section
variable {X : Cx} {ρ ρ' ρ1 ρ2 ρ3 : Env} {e a b c tg iter elt : Expr} {r : List Stmt} {k : Kn} {pos p1 p2 pp : Pos}
end
end DL

namespace DL
open PySem PySem.Spec PyProof.Rows L2
section
variable {P : Program} {w : World} {K : PySem.W.Frag} {mg : Str → Option Value} {base : Heap} {x qual : Str} {params : Arguments} {body : List Stmt} {scope : Scope} {f : Addr} {fd : FuncData} {N ps : List Str} {j : Nat} {R : FSpec}
/-- a def keeps its promise, as the head wants it -/
theorem fn_Dok (F : FunD K x qual params body scope [] [] f fd) (sc : FnScope N ps scope) (hlen : ∀ xs os r os', R xs os r os' → xs.length = ps.length ∧ os'.length = os.length ∧ ∀ o ∈ os', o.free)
    (hbody : ∀ (cdv : Value) (A : Around) (outer : List PySem.Env) (s : Shared) (H : Hp) (E : XK), Room j (A.deeper (envOfC qual scope s.heap.objs.size f cdv)) → ∀ xs os r os', R xs os r os' → (∀ o ∈ os, o.free) →
      SDs (cxOf CX0 P w K mg base N qual scope f cdv A outer s H E).nox (env0 N xs os) body (kn0 os.length r os')) : FnOk P w K mg base CX0 (j + 1) f fd ps (spF K R) := by
  refine F.ok sc (fun vs H Q E h => ?_) (fun cdv A outer s H vs Q E hr h => ?_)
  · obtain ⟨S, M, xs, os, rr, os', _, hv, _, _, h5, _⟩ := h
    rw [hv.length]; exact (hlen _ _ _ _ h5).1
  · obtain ⟨S, M, xs, os, rr, os', h1, hv, ho, hM, h5, hf, k⟩ := h
    obtain ⟨l1, l2, l3⟩ := hlen _ _ _ _ h5
    refine ⟨_, (hbody cdv A outer s H E hr xs os rr os' h5 hf).nox, body_read h1 hv ho hM ?_ l3 l2 k⟩
    have := congrArg List.length sc.pre
    rw [List.length_take] at this
    omega
end
end DL

namespace DL
open PySem PySem.Spec PyProof.Rows L2
/-! ### mirrors: what a def computes, as a partial function of data -/
theorem bnd {α β : Type} {x : Option α} {f : α → Option β} {r : β} (h : x.bind f = some r) : ∃ t, x = some t ∧ f t = some r := Option.bind_eq_some_iff.mp h
theorem ct {α : Type} {a b c : α} (h : cond true a b = c) : a = c := h
theorem cf {α : Type} {a b c : α} (h : cond false a b = c) : b = c := h
theorem sm {α : Type} {a b : α} (h : some a = some b) : a = b := Option.some.inj h
/-- how a block ends -/
inductive Fl (σ τ : Type) where
  | nx (s : σ) | bk (s : σ) | rt (t : τ)
def forS {σ : Type} (f : D → σ → Option σ) : List D → σ → Option σ
  | [], s => some s
  | d :: ds, s => (f d s).bind fun s' => forS f ds s'
def forF {σ τ : Type} (f : D → σ → Option (Fl σ τ)) : List D → σ → Option (Fl σ τ)
  | [], s => some (.nx s)
  | d :: ds, s => (f d s).bind fun
    | .nx s' => forF f ds s'
    | .bk s' => some (.nx s')
    | .rt t => some (.rt t)
def lcM (f : D → Option (Option D)) : List D → Option (List D)
  | [] => some []
  | d :: ds => (f d).bind fun o => (lcM f ds).bind fun r => some (o.toList ++ r)
/-! operations -/
def dSub : D → D → Option D
  | .int i, .int j => some (.int (i - j))
  | _, _ => none
def dMul : D → D → Option D
  | .int i, .int j => if (-(2 ^ 64) < i ∧ i < 2 ^ 64) ∨ (-(2 ^ 64) < j ∧ j < 2 ^ 64) then some (.int (i * j)) else none
  | _, _ => none
def dMod : D → D → Option D
  | .int i, .int j => if 0 < j then some (.int (i % j)) else none
  | _, _ => none
def dDiv : D → D → Option D
  | .int i, .int j => if 0 < j ∧ j < 1073741824 then some (.int (i / j)) else none
  | _, _ => none
def dPow : D → D → Option D
  | .int i, .int j => if 0 ≤ j ∧ j ≤ 1000000 ∧ i.natAbs < 2 ^ 64 then some (.int (i ^ j.toNat)) else none
  | _, _ => none
def dNeg : D → Option D
  | .int i => some (.int (-i))
  | _ => none
def dIx : D → D → Option D
  | .lst ds, .int i => atI ds i
  | .tup ds, .int i => atI ds i
  | _, _ => none
def dB : D → Option Bool
  | .bl b => some b
  | _ => none
def dInt2 (f : Int → Int → Bool) : D → D → Option Bool
  | .int i, .int j => some (f i j)
  | _, _ => none
def dLt : D → D → Option Bool := dInt2 fun i j => decide (i < j)
def dLe : D → D → Option Bool := dInt2 fun i j => decide (i ≤ j)
def dGt : D → D → Option Bool := dInt2 fun i j => decide (j < i)
def dGe : D → D → Option Bool := dInt2 fun i j => decide (j ≤ i)
open Classical in
noncomputable def dEq (a b : D) : Option Bool :=
  if scD a b = true then some (eqSc a b)
  else if a.ok = true ∧ b.ok = true ∧ a.dep ≤ 64 ∧ b.dep ≤ 64 then some (decide (a = b)) else none
noncomputable def dNe (a b : D) : Option Bool := (dEq a b).bind fun p => some (!p)
def decInt : D → Option Int
  | .int i => some i
  | _ => none
def decInts : List D → Option (List Int)
  | [] => some []
  | d :: ds => (decInt d).bind fun i => (decInts ds).bind fun r => some (i :: r)
theorem decInts_ok : ∀ {ds : List D} {l : List Int}, decInts ds = some l → ds = l.map D.int
  | [], l, h => by cases h; rfl
  | d :: ds, l, h => by
    obtain ⟨i, h1, h⟩ := bnd h
    obtain ⟨r, h2, h⟩ := bnd h
    cases h
    have e1 : d = .int i := by cases d <;> simp [decInt] at h1; subst h1; rfl
    rw [e1, decInts_ok h2]; rfl
def dIn : D → D → Option Bool
  | .int i, u => (u.seq?).bind fun ds => (decInts ds).bind fun l => some (decide (i ∈ l))
  | _, _ => none
def dLen (u : D) : Option D := (u.seq?).bind fun ds => some (.int ds.length)
def dMax : D → D → Option D
  | .int i, .int j => some (.int (max i j))
  | _, _ => none
def dMin : D → D → Option D
  | .int i, .int j => some (.int (min i j))
  | _, _ => none
def dInt : D → Option D
  | .int i => some (.int i)
  | .bl b => some (.int (if b then 1 else 0))
  | _ => none
def dTuple : D → Option D
  | .lst ds => if ds.length ≤ sizeLine then some (.tup ds) else none
  | _ => none
def dList (u : D) : Option D := (u.seq?).bind fun ds => some (.lst ds)
def dTup (ds : List D) : Option D := if ds.length ≤ sizeLine then some (.tup ds) else none
def dRange1 : D → Option (List D)
  | .int j => if -(2 ^ 62) ≤ j ∧ j < 2 ^ 62 then some (rngD 0 j.toNat) else none
  | _ => none
def dSeq (u : D) : Option (List D) := u.seq?
def dEnum (u : D) : Option (List D) := (u.seq?).bind fun ds => some (enumD 0 ds)
def dUn2 : D → Option (D × D)
  | .tup [a, b] => some (a, b)
  | _ => none
def dUn3 : D → Option (D × D × D)
  | .tup [a, b, c] => some (a, b, c)
  | _ => none
theorem dUn2_ok {d a b : D} (h : dUn2 d = some (a, b)) : d = .tup [a, b] := by
  unfold dUn2 at h
  split at h
  · cases h; rfl
  · cases h
def dRev : D → Option D
  | .lst ds => some (.lst ds.reverse)
  | .tup ds => some (.tup ds.reverse)
  | _ => none
/-- a list of ours -/
def lIx (ds : List D) : D → Option D
  | .int i => atI ds i
  | _ => none
def lPut (ds : List D) (i d : D) : Option (List D) := match i with
  | .int i => (ixN ds.length i).bind fun j => some (ds.set j d)
  | _ => none
def lApp (ds : List D) (d : D) : Option (List D) := if ds.length < sizeLine then some (ds ++ [d]) else none
section
variable {X : Cx} {ρ ρ' ρ1 ρ2 ρ3 : Env} {e a b c tg iter elt : Expr} {es rest ifs : List Expr} {x y z : VD} {pos apos cpos pp : Pos} {p q : Bool} {st : Stmt} {r body orelse : List Stmt} {k : Kn} {ds ds' : List D} {u u' d d' w : D} {n : Str}
theorem ed_subM (ha : ED X ρ a (.d d) ρ1) (hb : ED X ρ1 b (.d d') ρ2) (h : dSub d d' = some w) : ED X ρ (.BinOp a .Sub b pos) (.d w) ρ2 := by
  unfold dSub at h
  split at h
  · cases h; exact ed_sub ha hb
  · cases h
theorem ed_mulM (ha : ED X ρ a (.d d) ρ1) (hb : ED X ρ1 b (.d d') ρ2) (h : dMul d d' = some w) : ED X ρ (.BinOp a .Mult b pos) (.d w) ρ2 := by
  unfold dMul at h
  split at h
  · split at h
    · cases h; exact ed_mul ha hb (by assumption)
    · cases h
  · cases h
theorem ed_modM (ha : ED X ρ a (.d d) ρ1) (hb : ED X ρ1 b (.d d') ρ2) (h : dMod d d' = some w) : ED X ρ (.BinOp a .Mod b pos) (.d w) ρ2 := by
  unfold dMod at h
  split at h
  · split at h
    · cases h; exact ed_mod ha hb (by assumption)
    · cases h
  · cases h
theorem ed_divM (ha : ED X ρ a (.d d) ρ1) (hb : ED X ρ1 b (.d d') ρ2) (h : dDiv d d' = some w) : ED X ρ (.BinOp a .FloorDiv b pos) (.d w) ρ2 := by
  unfold dDiv at h
  split at h
  · split at h
    · cases h; exact ed_fdiv ha hb (by assumption)
    · cases h
  · cases h
theorem ed_powM (ha : ED X ρ a (.d d) ρ1) (hb : ED X ρ1 b (.d d') ρ2) (h : dPow d d' = some w) : ED X ρ (.BinOp a .Pow b pos) (.d w) ρ2 := by
  unfold dPow at h
  split at h
  · split at h
    · cases h; exact ed_pow ha hb (by assumption)
    · cases h
  · cases h
theorem ed_ixM (ha : ED X ρ a (.d d) ρ1) (hb : ED X ρ1 b (.d d') ρ2) (h : dIx d d' = some w) (hs : PlainIx b := by intro _ _; rfl) : ED X ρ (.Subscript a b pos) (.d w) ρ2 := by
  unfold dIx at h
  split at h
  · exact ed_ix ha hb rfl h hs
  · exact ed_ix ha hb rfl h hs
  · cases h
theorem ed_ixOM {o : Nat} (ha : ED X ρ a (.loc o) ρ1) (hb : ED X ρ1 b (.d d') ρ2) (ho : ρ2.ow[o]? = some (some (.lst ds))) (h : lIx ds d' = some w) (hs : PlainIx b := by intro _ _; rfl) : ED X ρ (.Subscript a b pos) (.d w) ρ2 := by
  cases d' <;> simp [lIx] at h
  exact ed_ixO ha hb ho h hs
theorem dB_ok (h : dB d = some p) : d = .bl p := by cases d <;> simp [dB] at h; subst h; rfl
theorem td_valM (h : ED X ρ e (.d d) ρ1) (hb : dB d = some p) (he : ∀ whole, isTrue e X.env whole = (do let v ← whole; standAt e.pos; holding [v] (truthy v)) := by intro _; rfl) : TD X ρ e p ρ1 := by
  have := dB_ok hb; subst this; exact td_val h he
theorem ed_valM (h : ED X ρ e (.d d) ρ1) (hb : dB d = some p) : ED X ρ e (.d (.bl p)) ρ1 := by
  have := dB_ok hb; subst this; exact h
section
variable {f : Int → Int → Bool}
theorem dInt2_ok (h : dInt2 f d d' = some p) : ∃ i j, d = .int i ∧ d' = .int j ∧ p = f i j := by
  unfold dInt2 at h
  split at h
  · cases h; exact ⟨_, _, rfl, rfl, rfl⟩
  · cases h
end
theorem td_ltM (ha : ED X ρ a (.d d) ρ1) (hb : ED X ρ1 b (.d d') ρ2) (h : dLt d d' = some p) : TD X ρ (.Compare a [.Lt] [b] pos) p ρ2 := by obtain ⟨i, j, rfl, rfl, rfl⟩ := dInt2_ok h; exact td_lt ha hb
theorem td_leM (ha : ED X ρ a (.d d) ρ1) (hb : ED X ρ1 b (.d d') ρ2) (h : dLe d d' = some p) : TD X ρ (.Compare a [.LtE] [b] pos) p ρ2 := by obtain ⟨i, j, rfl, rfl, rfl⟩ := dInt2_ok h; exact td_le ha hb
theorem td_gtM (ha : ED X ρ a (.d d) ρ1) (hb : ED X ρ1 b (.d d') ρ2) (h : dGt d d' = some p) : TD X ρ (.Compare a [.Gt] [b] pos) p ρ2 := by obtain ⟨i, j, rfl, rfl, rfl⟩ := dInt2_ok h; exact td_gt ha hb
theorem td_geM (ha : ED X ρ a (.d d) ρ1) (hb : ED X ρ1 b (.d d') ρ2) (h : dGe d d' = some p) : TD X ρ (.Compare a [.GtE] [b] pos) p ρ2 := by obtain ⟨i, j, rfl, rfl, rfl⟩ := dInt2_ok h; exact td_ge ha hb
theorem ed_ltM (ha : ED X ρ a (.d d) ρ1) (hb : ED X ρ1 b (.d d') ρ2) (h : dLt d d' = some p) : ED X ρ (.Compare a [.Lt] [b] pos) (.d (.bl p)) ρ2 := by obtain ⟨i, j, rfl, rfl, rfl⟩ := dInt2_ok h; exact ed_lt ha hb
theorem ed_gtM (ha : ED X ρ a (.d d) ρ1) (hb : ED X ρ1 b (.d d') ρ2) (h : dGt d d' = some p) : ED X ρ (.Compare a [.Gt] [b] pos) (.d (.bl p)) ρ2 := by obtain ⟨i, j, rfl, rfl, rfl⟩ := dInt2_ok h; exact ed_gt ha hb
/-- a <= b <= c (two tests in the mirror; both are looked at) -/
theorem td_leleM {q : Bool} (ha : ED X ρ a (.d d) ρ) (hb : ED X ρ b (.d d') ρ) (hc : ED X ρ c (.d w) ρ) (h1 : dLe d d' = some p) (h2 : dLe d' w = some q) (hm : lastMarks [.LtE, .LtE] [b, c] = false := by with_unfolding_all rfl) : TD X ρ (.Compare a [.LtE, .LtE] [b, c] pos) (p && q) ρ := by
  obtain ⟨i, j, rfl, rfl, rfl⟩ := dInt2_ok h1
  obtain ⟨j', k, e, rfl, rfl⟩ := dInt2_ok h2
  cases e
  exact td_lele ha hb hc hm
theorem ed_leleM {q : Bool} (ha : ED X ρ a (.d d) ρ) (hb : ED X ρ b (.d d') ρ) (hc : ED X ρ c (.d w) ρ) (h1 : dLe d d' = some p) (h2 : dLe d' w = some q) (hm : lastMarks [.LtE, .LtE] [b, c] = false := by with_unfolding_all rfl) : ED X ρ (.Compare a [.LtE, .LtE] [b, c] pos) (.d (.bl (p && q))) ρ := by
  obtain ⟨i, j, rfl, rfl, rfl⟩ := dInt2_ok h1
  obtain ⟨j', k, e, rfl, rfl⟩ := dInt2_ok h2
  cases e
  exact ed_lele ha hb hc hm
open Classical in
theorem dEq_cases (h : dEq d d' = some p) : (scD d d' = true ∧ p = eqSc d d') ∨ (d.ok = true ∧ d'.ok = true ∧ d.dep ≤ 64 ∧ d'.dep ≤ 64 ∧ (p = true ↔ d = d')) := by
  unfold dEq at h
  split at h
  · cases h; exact .inl ⟨by assumption, rfl⟩
  · split at h
    · rename_i hh
      cases h
      exact .inr ⟨hh.1, hh.2.1, hh.2.2.1, hh.2.2.2, decide_eq_true_iff⟩
    · cases h
theorem td_eqM (hu : X.A.units + 64 < cLine) (ha : ED X ρ a (.d d) ρ1) (hb : ED X ρ1 b (.d d') ρ2) (h : dEq d d' = some p) (hm : behindInMarks .Eq b = false := by rfl) : TD X ρ (.Compare a [.Eq] [b] pos) p ρ2 := by
  rcases dEq_cases h with ⟨h1, rfl⟩ | ⟨o1, o2, s1, s2, hp⟩
  · exact td_eqS ha hb h1
  · exact td_eqD hu ha hb o1 o2 s1 s2 hp hm
theorem ed_eqM (hu : X.A.units + 64 < cLine) (ha : ED X ρ a (.d d) ρ1) (hb : ED X ρ1 b (.d d') ρ2) (h : dEq d d' = some p) (hm : behindInMarks .Eq b = false := by rfl) : ED X ρ (.Compare a [.Eq] [b] pos) (.d (.bl p)) ρ2 := by
  rcases dEq_cases h with ⟨h1, rfl⟩ | ⟨o1, o2, s1, s2, hp⟩
  · exact ed_eqS ha hb h1
  · exact ed_eqD hu ha hb o1 o2 s1 s2 hp hm
theorem td_neM (hu : X.A.units + 64 < cLine) (ha : ED X ρ a (.d d) ρ1) (hb : ED X ρ1 b (.d d') ρ2) (h : dNe d d' = some p) (hm : behindInMarks .NotEq b = false := by rfl) : TD X ρ (.Compare a [.NotEq] [b] pos) p ρ2 := by
  obtain ⟨q, h', e⟩ := bnd h
  cases e
  clear h
  rcases dEq_cases h' with ⟨h1, rfl⟩ | ⟨o1, o2, s1, s2, hp⟩
  · exact td_neS ha hb h1
  · exact td_neD hu ha hb o1 o2 s1 s2 (by rw [ne_eq, ← hp]; cases q <;> simp) hm
theorem dIn_ok (h : dIn d u = some p) : ∃ (i : Int) (l : List Int), d = .int i ∧ u.seq? = some (l.map D.int) ∧ p = decide (i ∈ l) := by
  cases d <;> simp only [dIn] at h <;> try cases h
  obtain ⟨ds, h1, h⟩ := bnd h
  obtain ⟨l, h2, h⟩ := bnd h
  cases h
  exact ⟨_, l, rfl, by rw [h1, decInts_ok h2], rfl⟩
theorem td_inM (ha : ED X ρ a (.d d) ρ1) (hb : ED X ρ1 b (.d u) ρ2) (h : dIn d u = some p) (hm : behindInMarks .In b = false := by rfl) : TD X ρ (.Compare a [.In] [b] pos) p ρ2 := by
  obtain ⟨i, l, rfl, hu, rfl⟩ := dIn_ok h
  exact td_in ha hb hu hm
/-! and, or -/
theorem tw_andM {B : Option Bool} (ha : TD X ρ a p ρ) (h : cond p B (some false) = some q) (hb : B = some q → TW X ρ (.BoolOp .And (b :: rest) pos) q ρ) : TW X ρ (.BoolOp .And (a :: b :: rest) pos) q ρ := by
  cases p with
  | true => have := tw_and ha (fun _ => hb (ct h)); simpa using this
  | false =>
    have e := sm (cf h)
    subst e
    have := tw_and (q := false) (b := b) (rest := rest) (pos := pos) ha (fun z => nomatch z)
    simpa using this
theorem tw_orM {B : Option Bool} (ha : TD X ρ a p ρ) (h : cond p (some true) B = some q) (hb : B = some q → TW X ρ (.BoolOp .Or (b :: rest) pos) q ρ) : TW X ρ (.BoolOp .Or (a :: b :: rest) pos) q ρ := by
  cases p with
  | false => have := tw_or ha (fun _ => hb (cf h)); simpa using this
  | true =>
    have e := sm (ct h)
    subst e
    have := tw_or (q := true) (b := b) (rest := rest) (pos := pos) ha (fun z => nomatch z)
    simpa using this
theorem ed_andM {B : Option Bool} (ha : ED X ρ a (.d (.bl p)) ρ) (h : cond p B (some false) = some q) (hb : B = some q → ED X ρ (.BoolOp .And (b :: rest) pos) (.d (.bl q)) ρ) : ED X ρ (.BoolOp .And (a :: b :: rest) pos) (.d (.bl q)) ρ := by
  cases p with
  | true => have := ed_and ha (fun _ => hb (ct h)); simpa using this
  | false =>
    have e := sm (cf h)
    subst e
    have := ed_and (q := false) (b := b) (rest := rest) (pos := pos) ha (fun z => nomatch z)
    simpa using this
theorem ed_orM {B : Option Bool} (ha : ED X ρ a (.d (.bl p)) ρ) (h : cond p (some true) B = some q) (hb : B = some q → ED X ρ (.BoolOp .Or (b :: rest) pos) (.d (.bl q)) ρ) : ED X ρ (.BoolOp .Or (a :: b :: rest) pos) (.d (.bl q)) ρ := by
  cases p with
  | false => have := ed_or ha (fun _ => hb (cf h)); simpa using this
  | true =>
    have e := sm (ct h)
    subst e
    have := ed_or (q := true) (b := b) (rest := rest) (pos := pos) ha (fun z => nomatch z)
    simpa using this
theorem ed_ifM {A B : Option D} (hc : TD X ρ c p ρ) (h : cond p A B = some w) (ha : A = some w → ED X ρ a (.d w) ρ) (hb : B = some w → ED X ρ b (.d w) ρ) : ED X ρ (.IfExp c a b pos) (.d w) ρ := by
  cases p with
  | true => exact ed_ifT hc (ha (ct h))
  | false => exact ed_ifF hc (hb (cf h))
/-! built-ins -/
theorem cb_lenM (h : dLen u = some w) : CBR X (.builtin "len") ρ [.d u] (.d w) ρ := by
  obtain ⟨ds, h1, h⟩ := bnd h
  cases h; exact cb_len h1
theorem cb_intM (h : dInt d = some w) : CBR X (.type "int") ρ [.d d] (.d w) ρ := by
  unfold dInt at h; split at h
  · cases h; exact cb_intI
  · cases h; exact cb_intB
  · cases h
theorem cb_tupM (h : dTuple d = some w) : CBR X (.type "tuple") ρ [.d d] (.d w) ρ := by
  unfold dTuple at h; split at h
  · split at h
    · cases h; exact cb_tupL (by assumption)
    · cases h
  · cases h
theorem cb_listM (h : dList u = some w) : CBR X (.type "list") ρ [.d u] (.d w) ρ := by
  obtain ⟨ds, h1, h⟩ := bnd h
  cases h; exact cb_list h1
/-! what is walked -/
theorem it_seqM (h : ED X ρ e (.d u) ρ1) (hu : dSeq u = some ds) : ItD X ρ tg e ds ρ1 := by
  unfold dSeq at hu
  cases u <;> simp [D.seq?] at hu
  · subst hu; exact it_list h
  · subst hu; exact it_tup h
  · subst hu; exact it_ktp h
theorem it_range1M (ha : ED X ρ a (.d d) ρ1) (h : dRange1 d = some ds) (hg : Gl X "range") (hm : X.mg "range" = none) (hs : starEach [a] X.env = [(false, eval a X.env)] := by rfl) : ItD X ρ tg (.Call (.Name "range" pp) [a] [] pos) ds ρ1 := by
  unfold dRange1 at h; split at h
  · split at h
    · cases h; exact it_range1 ha hg hm (by assumption) hs
    · cases h
  · cases h
theorem it_enumM {tpos : Pos} {elts : List Expr} {kk : Nat} (ha : ED X ρ e (.d u) ρ1) (h : dEnum u = some ds) (hg : Gl X "enumerate") (hm : X.mg "enumerate" = none) (hs : starEach [e] X.env = [(false, eval e X.env)] := by rfl) :
    ItD X ρ (.Tuple elts kk tpos) (.Call (.Name "enumerate" pp) [e] [] pos) ds ρ1 := by
  obtain ⟨ds, h1, h⟩ := bnd h
  cases h; exact it_enum ha h1 hg hm hs
/-! lists of ours -/
theorem sds_setIxM {o : Nat} {tpos : Pos} {ds2 : List D} (hv : ED X ρ e (.d d) ρ1) (ho : ED X ρ1 a (.loc o) ρ2) (hi : ED X ρ2 b (.d d') ρ3) (hw : ρ3.ow[o]? = some (some (.lst ds))) (hj : lPut ds d' d = some ds2) (h : SDs X { ρ3 with ow := ρ3.ow.set o (some (.lst ds2)) } r k)
    (ha : ∀ v, assign (.Subscript a b tpos) X.env v = (do
      let ov ← holding [v] (eval a X.env)
      let iv ← holding [v, ov] (eval b X.env)
      standAt tpos
      holding [v, ov, iv] (setItem ov iv v)
      release [v, ov, iv] []) := by intro _; rfl)
    (hs : swapsWithSole [.Subscript a b tpos] e pos.line X.env = pure false := by rfl) (hsw : swappedStores [.Subscript a b tpos] e X.env = pure none := by rfl) (h1 : (assignEach [.Subscript a b tpos] X.env).map (·.2) = [assign (.Subscript a b tpos) X.env] := by rfl) :
    SDs X ρ (.Assign [.Subscript a b tpos] e pos :: r) k := by
  cases d' <;> simp only [lPut] at hj <;> try cases hj
  obtain ⟨j, h2, hj⟩ := bnd hj
  cases hj
  exact sds_setIx hv ho hi hw h2 h ha hs hsw h1
/-! if, for, while -/
theorem forS_drop {σ : Type} {f : D → σ → Option σ} {ds : List D} {s s1 : σ} {i : Nat} {d : D} (hd : ds[i]? = some d) (h : forS f (ds.drop i) s = some s1) : ∃ s', f d s = some s' ∧ forS f (ds.drop (i + 1)) s' = some s1 := by
  obtain ⟨hlt, he⟩ := List.getElem?_eq_some_iff.mp hd
  rw [List.drop_eq_getElem_cons hlt, he] at h
  exact bnd h
theorem sds_forS {σ : Type} {vs : List Nat} (E : σ → Env → Prop) (f : D → σ → Option σ) {s0 s1 : σ} (hi : ItD X ρ tg iter ds ρ1) (hf : forS f ds s0 = some s1) (h0 : E s0 ρ1)
    (hs : ∀ d s s' ρ, E s ρ → f d s = some s' → ∃ ρ', GD X vs ρ tg (.d d) ρ' ∧ SDs X ρ' body { nx := E s', ct := E s', bk := fun _ => False, rt := k.rt })
    (hd : ∀ ρ, E s1 ρ → SDs X ρ r k) (hp : PassesOwn (model X.prog X.w) X.A X.env X.xe) (hc : X.calm = true) (hfs : ∀ x, foldedSetIterable iter X.env x = pure x) : SDs X ρ (.For tg iter body [] pos :: r) k := by
  refine sds_for (vs := vs) hi (fun i ρ => ∃ s, E s ρ ∧ forS f (ds.drop i) s = some s1) ⟨s0, h0, hf⟩ ?_ ?_ hp hc hfs
  · rintro i d ρ hd ⟨s, hE, hF⟩
    obtain ⟨s', h1, h2⟩ := forS_drop hd hF
    obtain ⟨ρ', hg, hb⟩ := hs d s s' ρ hE h1
    exact ⟨ρ', hg, hb.imp (fun ρ h => ⟨s', h, h2⟩) (fun _ _ z => z) (fun _ z => z.elim) (fun ρ h => ⟨s', h, h2⟩)⟩
  · rintro ρ ⟨s, hE, hF⟩
    rw [List.drop_length] at hF
    have e := sm hF
    subst e
    exact hd ρ hE
def knF {σ τ : Type} (E : σ → Env → Prop) (RT : τ → D → List (Option OD) → Prop) (fl : Fl σ τ) : Kn where
  nx := fun ρ => ∃ s, fl = .nx s ∧ E s ρ
  ct := fun ρ => ∃ s, fl = .nx s ∧ E s ρ
  bk := fun ρ => ∃ s, fl = .bk s ∧ E s ρ
  rt := fun d ow => ∃ t, fl = .rt t ∧ RT t d ow
theorem forF_drop {σ τ : Type} {f : D → σ → Option (Fl σ τ)} {ds : List D} {s : σ} {fl : Fl σ τ} {i : Nat} {d : D} (hd : ds[i]? = some d) (h : forF f (ds.drop i) s = some fl) : ∃ fl1, f d s = some fl1 ∧ (match fl1 with
    | .nx s' => forF f (ds.drop (i + 1)) s'
    | .bk s' => some (.nx s')
    | .rt t => some (.rt t)) = some fl := by
  obtain ⟨hlt, he⟩ := List.getElem?_eq_some_iff.mp hd
  rw [List.drop_eq_getElem_cons hlt, he] at h
  exact bnd h
theorem sds_forF {σ τ : Type} {vs : List Nat} (E : σ → Env → Prop) (RT : τ → D → List (Option OD) → Prop) (f : D → σ → Option (Fl σ τ)) {s0 : σ} {fl : Fl σ τ} (hi : ItD X ρ tg iter ds ρ1) (hf : forF f ds s0 = some fl) (h0 : E s0 ρ1)
    (hs : ∀ d s fl ρ, E s ρ → f d s = some fl → ∃ ρ', GD X vs ρ tg (.d d) ρ' ∧ SDs X ρ' body (knF E RT fl))
    (hd : ∀ s ρ, fl = .nx s → E s ρ → SDs X ρ r k) (hr : ∀ t d ow, fl = .rt t → RT t d ow → k.rt d ow) (hp : PassesOwn (model X.prog X.w) X.A X.env X.xe) (hc : X.calm = true) (hfs : ∀ x, foldedSetIterable iter X.env x = pure x) : SDs X ρ (.For tg iter body [] pos :: r) k := by
  refine sds_for (vs := vs) hi (fun i ρ => ∃ s, E s ρ ∧ forF f (ds.drop i) s = some fl) ⟨s0, h0, hf⟩ ?_ ?_ hp hc hfs
  · rintro i d ρ hd1 ⟨s, hE, hF⟩
    obtain ⟨fl1, h1, h2⟩ := forF_drop hd1 hF
    obtain ⟨ρ', hg, hb⟩ := hs d s fl1 ρ hE h1
    refine ⟨ρ', hg, hb.imp ?_ ?_ ?_ ?_⟩
    · rintro ρ ⟨s', rfl, h⟩; exact ⟨s', h, h2⟩
    · rintro d ow ⟨t, rfl, h⟩; exact hr t d ow (sm h2).symm h
    · rintro ρ ⟨s', rfl, h⟩; exact hd s' ρ (sm h2).symm h
    · rintro ρ ⟨s', rfl, h⟩; exact ⟨s', h, h2⟩
  · rintro ρ ⟨s, hE, hF⟩
    rw [List.drop_length] at hF
    exact hd s ρ (sm hF).symm hE
/-! comprehensions -/
theorem lcM_zip {f : D → Option (Option D)} : ∀ {ds out : List D}, lcM f ds = some out → ∃ o : D → Option D, (∀ d ∈ ds, f d = some (o d)) ∧ out = ds.filterMap o := by
  intro ds out h
  refine ⟨fun d => (f d).getD none, ?_⟩
  induction ds generalizing out with
  | nil => cases h; exact ⟨by simp, rfl⟩
  | cons d ds ih =>
    obtain ⟨o, h1, h⟩ := bnd h
    obtain ⟨r, h2, h⟩ := bnd h
    cases h
    obtain ⟨i1, i2⟩ := ih h2
    refine ⟨fun x hx => ?_, ?_⟩
    · rcases List.mem_cons.mp hx with rfl | hx
      · simp [h1]
      · exact i1 x hx
    · rw [List.filterMap_cons, h1, i2]
      cases o <;> rfl
theorem ed_lcM {f : D → Option (Option D)} {out : List D} {gv : List Nat} {scope : Scope} {own : List (Str × Nat)} (hi : ItD X ρ tg iter ds ρ1) (hf : lcM f ds = some out)
    (hs : ∀ d o, f d = some o → LcP X scope gv (own.map (·.2)) ρ1 tg elt ifs d o) (hz : ds.length ≤ sizeLine)
    (hgv : ∀ j ∈ gv, j ∈ own.map (·.2)) (ok : BlkOk X.N X.env.scope scope own) (hN : X.N.Nodup) (hc : X.calm = true) (hfs : ∀ x, foldedSetIterable iter X.env x = pure x) :
    ED X ρ (.ListComp elt [⟨tg, iter, ifs, 0⟩] scope pos) (.d (.lst out)) ρ1 := by
  obtain ⟨o, h1, h2⟩ := lcM_zip hf
  subst h2
  exact ed_lcP (xs := ds) (f := id) (gv := gv) (by rw [List.map_id]; exact hi) o (fun a ha => hs a _ (h1 a ha)) hz hgv ok hN hc hfs
theorem sds_lcM (i : Nat) {n : Str} {pos' spos : Pos} {f : D → Option (Option D)} {out : List D} {gv : List Nat} {scope : Scope} {own : List (Str × Nat)} (hi : ItD X ρ tg iter ds ρ1) (hf : lcM f ds = some out)
    (hs : ∀ d o, f d = some o → LcP X scope gv (own.map (·.2)) ρ1 tg elt ifs d o) (hz : ds.length ≤ sizeLine) (h : SDs X (Env.put ρ1 i (.d (.lst out))) r k)
    (hgv : ∀ j ∈ gv, j ∈ own.map (·.2)) (ok : BlkOk X.N X.env.scope scope own) (hN : X.N.Nodup) (hc : X.calm = true)
    (hi' : X.N[i]? = some n) (hyl : X.env.scope.names.lookup n = some .local) (hsw : swapsWith (.ListComp elt [⟨tg, iter, ifs, 0⟩] scope pos) (some (.Name n pos')) spos.line X.env = pure true) (hfs : ∀ x, foldedSetIterable iter X.env x = pure x) :
    SDs X ρ (.Assign [.Name n pos'] (.ListComp elt [⟨tg, iter, ifs, 0⟩] scope pos) spos :: r) k := by
  obtain ⟨o, h1, h2⟩ := lcM_zip hf
  subst h2
  exact sds_lcP i (xs := ds) (f := id) (gv := gv) (by rw [List.map_id]; exact hi) o (fun a ha => hs a _ (h1 a ha)) h hz hgv ok hN hc hi' hyl hsw hfs
end
end DL

namespace DL
open PySem PySem.Spec PyProof.Rows L2
/-! ### less is known -/
def wkL : List (Option VD) → List (Option VD) → Prop
  | [], [] => True
  | a :: as, b :: bs => (b = none ∨ a = b) ∧ wkL as bs
  | _, _ => False
theorem wkL_len : ∀ {as bs : List (Option VD)}, wkL as bs → as.length = bs.length
  | [], [], _ => rfl
  | [], _ :: _, h => h.elim
  | _ :: _, [], h => h.elim
  | a :: as, b :: bs, h => by simp [wkL_len h.2]
theorem wkL_get : ∀ {as bs : List (Option VD)} {i : Nat} {x : VD}, wkL as bs → bs[i]? = some (some x) → as[i]? = some (some x)
  | [], [], _, _, _, e => by simp at e
  | [], _ :: _, _, _, h, _ => h.elim
  | _ :: _, [], _, _, h, _ => h.elim
  | a :: as, b :: bs, 0, x, h, e => by
    simp at e
    rcases h.1 with z | z
    · rw [z] at e; cases e
    · simp [z, e]
  | a :: as, b :: bs, i + 1, x, h, e => by
    have := wkL_get (i := i) h.2 (by simpa using e)
    simpa using this
theorem wkL_refl : ∀ (as : List (Option VD)), wkL as as
  | [] => trivial
  | _ :: as => ⟨.inr rfl, wkL_refl as⟩
structure Wk (ρ ρ0 : Env) : Prop where
  m : ρ.m = ρ0.m
  sl : wkL ρ.sl ρ0.sl
  ow : ∃ ext, ρ.ow = ρ0.ow ++ ext
theorem Wk.refl (ρ : Env) : Wk ρ ρ := ⟨rfl, wkL_refl _, [], by simp⟩
def locV (n : Nat) : VD → Bool
  | .d _ => true
  | .loc j => decide (j < n)
def locS (n : Nat) : List (Option VD) → Bool
  | [] => true
  | none :: r => locS n r
  | some x :: r => locV n x && locS n r
def locX (n : Nat) : List VD → Bool
  | [] => true
  | x :: r => locV n x && locX n r
def locO (n : Nat) : List (Option OD) → Bool
  | [] => true
  | some (.ins _ _ xs) :: r => locX n xs && locO n r
  | _ :: r => locO n r
def LocOk (ρ : Env) : Prop := (locS ρ.ow.length ρ.sl && locO ρ.ow.length ρ.ow && decide (ρ.m ≤ ρ.ow.length)) = true
theorem locS_get {n : Nat} : ∀ {sl : List (Option VD)} {i : Nat} {x : VD}, locS n sl = true → sl[i]? = some (some x) → locV n x = true
  | [], _, _, _, e => by simp at e
  | none :: r, 0, _, _, e => by simp at e
  | none :: r, i + 1, x, h, e => locS_get (sl := r) (i := i) h (by simpa using e)
  | some y :: r, 0, x, h, e => by
    simp at e; subst e
    simp only [locS, Bool.and_eq_true] at h; exact h.1
  | some y :: r, i + 1, x, h, e => by
    simp only [locS, Bool.and_eq_true] at h
    exact locS_get (i := i) h.2 (by simpa using e)
theorem locX_all {n : Nat} : ∀ {xs : List VD}, locX n xs = true → ∀ x ∈ xs, locV n x = true
  | [], _, _, h => by cases h
  | y :: r, h, x, hx => by
    simp only [locX, Bool.and_eq_true] at h
    rcases List.mem_cons.mp hx with rfl | hx
    · exact h.1
    · exact locX_all h.2 x hx
theorem locO_get {n : Nat} : ∀ {ow : List (Option OD)} {i : Nat} {C : Addr} {ns : List Str} {xs : List VD}, locO n ow = true → ow[i]? = some (some (.ins C ns xs)) → locX n xs = true
  | [], _, _, _, _, _, e => by simp at e
  | o :: r, i + 1, C, ns, xs, h, e => by
    refine locO_get (ow := r) (i := i) (C := C) (ns := ns) ?_ (by simpa using e)
    match o, h with
    | none, h => exact h
    | some (.lst _), h => exact h
    | some (.dic _ _), h => exact h
    | some (.dit _ _), h => exact h
    | some (.tb _ _), h => exact h
    | some (.ins _ _ _), h => simp only [locO, Bool.and_eq_true] at h; exact h.2
  | o :: r, 0, C, ns, xs, h, e => by
    simp at e; subst e
    simp only [locO, Bool.and_eq_true] at h; exact h.1
section
variable {K : PySem.W.Frag} {fr : Fr} {ρ ρ0 : Env} {σ : L2.St} {S H : Hp} {ad : List Addr}
theorem Rv.cut {n : Nat} {v : V} {x : VD} (h : Rv K S ad v x) (hx : locV n x = true) : Rv K S (ad.take n) v x := by
  cases h with
  | d h => exact .d h
  | loc e =>
    simp only [locV, decide_eq_true_eq] at hx
    exact .loc (by rw [List.getElem?_take_of_lt hx]; exact e)
theorem RvAll.cut {n : Nat} : ∀ {vs : List V} {xs : List VD}, RvAll K S ad vs xs → (∀ x ∈ xs, locV n x = true) → RvAll K S (ad.take n) vs xs
  | _, _, .nil, _ => .nil
  | _, _, .cons a b, h => .cons (a.cut (h _ (by simp))) (RvAll.cut b fun x hx => h x (by simp [hx]))
theorem Rel.wk (R : Rel K fr ρ σ S H ad) (w : Wk ρ ρ0) (hl : LocOk ρ0) : Rel K fr ρ0 σ S H (ad.take ρ0.ow.length) := by
  obtain ⟨ext, he⟩ := w.ow
  simp only [LocOk, Bool.and_eq_true, decide_eq_true_eq] at hl
  obtain ⟨⟨l1, l2⟩, l3⟩ := hl
  have hal : ad.length = ρ0.ow.length + ext.length := by rw [R.al, he, List.length_append]
  have hget : ∀ {n : Nat} {o : OD}, ρ0.ow[n]? = some (some o) → ρ.ow[n]? = some (some o) ∧ n < ρ0.ow.length := fun {n o} e => by
    have hlt := (List.getElem?_eq_some_iff.mp e).1
    exact ⟨by rw [he, List.getElem?_append_left hlt]; exact e, hlt⟩
  refine ⟨R.grow, fun i x e => ?_, fun n o e => ?_, ?_, ?_, ?_, ?_, fun n hn => ?_, fun l hl' => R.lv l (List.mem_of_mem_take hl')⟩
  · obtain ⟨v, e1, e2⟩ := R.slots i x (wkL_get w.sl e)
    exact ⟨v, e1, e2.cut (locS_get l1 e)⟩
  · obtain ⟨e', hlt⟩ := hget e
    obtain ⟨l, ho, f1, f2, f3, f4, f5⟩ := R.own n o e'
    refine ⟨l, ho, by rw [List.getElem?_take_of_lt hlt]; exact f1, f2, f3, ?_, fun hm => f5 (by rw [w.m]; exact hm)⟩
    cases ho <;> cases o <;> first | exact f4.elim | exact f4 | skip
    obtain ⟨g0, vs, g1, g2, g3⟩ := f4
    exact ⟨g0, vs, g1, g2, g3.cut fun x hx => locX_all (locO_get l2 e) x hx⟩
  · have := R.mm
    rw [w.m] at this
    refine ⟨this.1, ?_⟩
    rw [List.take_take, Nat.min_eq_left l3]; exact this.2
  · exact R.nd.sublist (List.take_sublist _ _)
  · rw [← wkL_len w.sl]; exact R.len
  · rw [List.length_take, hal]; omega
  · obtain ⟨o, e⟩ := R.ml n (by rw [w.m]; exact hn)
    refine ⟨o, ?_⟩
    have hn' : n < ρ0.ow.length := Nat.lt_of_lt_of_le hn l3
    rw [he, List.getElem?_append_left hn'] at e
    exact e
end
section
variable {X : Cx} {ρ ρ' ρ0 ρ1 ρ2 ρ3 : Env} {e a b c tg iter elt : Expr} {es rest ifs : List Expr} {x y z : VD} {xs ys : List VD} {pos apos cpos pp : Pos} {p q : Bool} {st : Stmt} {r body orelse : List Stmt} {k : Kn} {ds ds' : List D} {u u' d d' w : D} {n m : Str} {R : FSpec}
theorem sds_wk (w : Wk ρ ρ0) (hl : LocOk ρ0) (h : SDs X ρ0 r k) : SDs X ρ r k :=
  sds_of h fun Dn σ H ⟨fr, S, ad, R, kk⟩ => ⟨fr, S, _, R.wk w hl, kk⟩
theorem ED.fzL {n : Nat} {ds : List D} {d : D} (he : ED X ρ e (.loc n) ρ1) (hn : ρ1.ow[n]? = some (some (.lst ds))) (hm : ρ1.m ≤ n) (hd : some (D.lst ds) = some d) : ED X ρ e (.d d) (ρ1.fz n d) := by
  have e := sm hd
  subst e
  exact he.fz hn (.lst _) hm
theorem ed_appM {o : Nat} (ha : ED X ρ a (.loc o) ρ1) (hb : ED X ρ1 b (.d d) ρ2) (hw : ρ2.ow[o]? = some (some (.lst ds))) (hw1 : ∃ ds', ρ1.ow[o]? = some (some (.lst ds'))) (hz : lApp ds d = some ds')
    (hbase : attributeBase a "append" X.env (eval a X.env) = eval a X.env)
    (hfew : ((backTo cpos (starEach [b] X.env)).all (fun x => !x.1) && (backToKw cpos (keywordEach [] X.env)).all (fun x => x.1.isSome)
      && decide ([b].length + ([] : List Keyword).length + (if ([] : List Keyword).isEmpty then 0 else 1) < 30)) = true)
    (hline : (apos.endLine == cpos.line) = true) (hs : starEach [b] X.env = (false, eval b X.env) :: starEach [] X.env) (hplain : (backTo cpos (starEach [] X.env)).any (·.1) = false) :
    ED X ρ (.Call (.Attribute a "append" apos) [b] [] cpos) (.d .non) { ρ2 with ow := ρ2.ow.set o (some (.lst ds')) } := by
  unfold lApp at hz
  split at hz
  · cases hz; exact ed_app ha hb hw hw1 (by assumption) hbase hfew hline hs hplain
  · cases hz
/-! isinstance -/
def dIsi (f : Kd → Bool) (d : D) : Option Bool := (d.kd).bind fun k => some (f k)
theorem cb_isiM {T : String} {f : Kd → Bool} (hT : ∀ k : Kd, kitB k.nm T = some (f k)) (h : dIsi f d = some p) : CBR X (.builtin "isinstance") ρ [.d d, .d (.ty T)] (.d (.bl p)) ρ := by
  obtain ⟨k, h1, h⟩ := bnd h
  cases h
  exact cb_isi (kd_tyn h1) (hT k)
def dAddI : D → D → Option D
  | .int i, .int j => some (.int (i + j))
  | _, _ => none
/-- the length that len hands on -/
def dNat : D → Option D
  | .int i => if 0 ≤ i ∧ i < 2 ^ 63 then some (.int i) else none
  | _ => none
end
end DL

namespace DL
open PySem PySem.Spec PyProof.Rows L2
theorem wk0 : wkL [] [] := trivial
theorem wkF {a : Option VD} {as bs : List (Option VD)} (h : wkL as bs) : wkL (a :: as) (none :: bs) := ⟨.inl rfl, h⟩
theorem wkK {a : Option VD} {as bs : List (Option VD)} (h : wkL as bs) : wkL (a :: as) (a :: bs) := ⟨.inr rfl, h⟩
/-! ### several slots are stored -/
def Env.puts (ρ : Env) : List (Nat × D) → Env
  | [] => ρ
  | (i, d) :: l => (ρ.put i (.d d)).puts l
theorem wkL_set {x : Option VD} : ∀ {as bs : List (Option VD)} {i : Nat}, wkL as bs → wkL (as.set i x) (bs.set i x)
  | [], [], _, _ => trivial
  | [], _ :: _, _, h => h.elim
  | _ :: _, [], _, h => h.elim
  | a :: as, b :: bs, 0, h => ⟨.inr rfl, h.2⟩
  | a :: as, b :: bs, i + 1, h => ⟨h.1, wkL_set (i := i) h.2⟩
theorem Wk.put {ρ ρ0 : Env} {i : Nat} {x : VD} (w : Wk ρ ρ0) : Wk (ρ.put i x) (ρ0.put i x) := ⟨w.m, wkL_set w.sl, w.ow⟩
theorem Wk.puts : ∀ {l : List (Nat × D)} {ρ ρ0 : Env}, Wk ρ ρ0 → Wk (ρ.puts l) (ρ0.puts l)
  | [], _, _, w => w
  | (i, d) :: l, _, _, w => Wk.puts (l := l) w.put
theorem puts_m : ∀ (l : List (Nat × D)) (ρ : Env), (ρ.puts l).m = ρ.m
  | [], _ => rfl
  | (i, d) :: l, ρ => puts_m l (ρ.put i (.d d))
theorem puts_ow : ∀ (l : List (Nat × D)) (ρ : Env), (ρ.puts l).ow = ρ.ow
  | [], _ => rfl
  | (i, d) :: l, ρ => puts_ow l (ρ.put i (.d d))
theorem puts_app : ∀ (l l' : List (Nat × D)) (ρ : Env), ρ.puts (l ++ l') = (ρ.puts l).puts l'
  | [], _, _ => rfl
  | (i, d) :: l, l', ρ => puts_app l l' (ρ.put i (.d d))
theorem locS_set {n : Nat} {d : D} : ∀ {sl : List (Option VD)} {i : Nat}, locS n sl = true → locS n (sl.set i (some (.d d))) = true
  | [], _, _ => rfl
  | none :: r, 0, h => by simpa [locS, locV] using h
  | some x :: r, 0, h => by simp only [locS, Bool.and_eq_true] at h; simpa [locS, locV] using h.2
  | none :: r, i + 1, h => locS_set (sl := r) (i := i) h
  | some x :: r, i + 1, h => by
    simp only [locS, Bool.and_eq_true] at h
    show locS n (some x :: r.set i (some (.d d))) = true
    simp only [locS, Bool.and_eq_true]
    exact ⟨h.1, locS_set h.2⟩
theorem LocOk.put {ρ : Env} {i : Nat} {d : D} (h : LocOk ρ) : LocOk (ρ.put i (.d d)) := by
  simp only [LocOk, Bool.and_eq_true, decide_eq_true_eq] at h ⊢
  exact ⟨⟨locS_set h.1.1, h.1.2⟩, h.2⟩
theorem LocOk.puts : ∀ {l : List (Nat × D)} {ρ : Env}, LocOk ρ → LocOk (ρ.puts l)
  | [], _, h => h
  | (i, d) :: l, _, h => LocOk.puts (l := l) h.put
/-! ### targets, whatever stood before -/
def TG (X : Cx) (vs : List Nat) (tg : Expr) (d : D) (l : List (Nat × D)) : Prop := ∀ ρ : Env, GD X vs ρ tg (.d d) (ρ.puts l)
def TGL (X : Cx) (vs : List Nat) (tg : List Expr) (ds : List D) (l : List (Nat × D)) : Prop := ∀ ρ : Env, GDs X vs ρ tg (ds.map VD.d) (ρ.puts l)
section
variable {X : Cx} {ρ ρ' ρ0 ρ1 ρ2 ρ3 : Env} {e a b c tg iter elt : Expr} {es rest ifs : List Expr} {x y z : VD} {xs ys : List VD} {pos apos cpos pp : Pos} {p q : Bool} {st : Stmt} {r body orelse : List Stmt} {k : Kn} {ds ds' : List D} {u u' d d' w : D} {n m : Str} {R : FSpec} {vs ws : List Nat} {l l' : List (Nat × D)}
theorem tg_name (i : Nat) (hN : X.N.Nodup) (hi : X.N[i]? = some n) (hx : Loc X.env.scope n) (hf : X.fn n = true ∨ X.env.scope.names.lookup n = some .local) : TG X [i] (.Name n pos) d [(i, d)] := fun ρ => gd_name i hN hi hx hf
theorem tgl_nil : TGL X [] [] [] [] := fun ρ => gds_nil
theorem tgl_cons (h1 : TG X vs e d l) (h2 : TGL X ws es ds l') (hs : (assignEach (e :: es) X.env).map (·.2) = assign e X.env :: (assignEach es X.env).map (·.2) := by rfl) : TGL X (vs ++ ws) (e :: es) (d :: ds) (l ++ l') := fun ρ => by
  rw [puts_app]; exact gds_cons (h1 ρ) (h2 _) hs
theorem tg_tup {kk : Nat} (hc : X.calm = true) (h : TGL X vs es ds l) (hn : (assignEach es X.env).length = ds.length) (hst : (assignEach es X.env).findIdx? (·.1) = none) : TG X vs (.Tuple es kk pos) (.tup ds) l := fun ρ => gd_tup (xs := []) hc (h ρ) rfl hn hst
/-- in a comprehension's block -/
theorem tg_blk (i : Nat) {scope : Scope} (hN : X.N.Nodup) (hi : X.N[i]? = some n) (hx : scope.names.lookup n = some .local) : Blk X scope (fun Y => TG Y [i] (.Name n pos) d [(i, d)]) :=
  fun _ _ _ _ _ ρ => gd_name i hN hi (.inl (lookup_relabel_local hx)) (.inr (lookup_relabel_local hx))
theorem blk_nil {scope : Scope} : Blk X scope (fun Y => TGL Y [] [] [] []) := fun _ _ _ _ _ => tgl_nil
theorem blk_cons {scope : Scope} (h1 : Blk X scope (fun Y => TG Y vs e d l)) (h2 : Blk X scope (fun Y => TGL Y ws es ds l')) (hs : Blk X scope (fun Y => (assignEach (e :: es) Y.env).map (·.2) = assign e Y.env :: (assignEach es Y.env).map (·.2))) : Blk X scope (fun Y => TGL Y (vs ++ ws) (e :: es) (d :: ds) (l ++ l')) :=
  fun a b c d e => tgl_cons (h1 a b c d e) (h2 a b c d e) (hs a b c d e)
theorem blk_tup {kk : Nat} {scope : Scope} (hc : X.calm = true) (h : Blk X scope (fun Y => TGL Y vs es ds l)) (hn : Blk X scope (fun Y => (assignEach es Y.env).length = ds.length)) (hst : Blk X scope (fun Y => (assignEach es Y.env).findIdx? (·.1) = none)) : Blk X scope (fun Y => TG Y vs (.Tuple es kk pos) (.tup ds) l) :=
  fun a b c d e => tg_tup hc (h a b c d e) (hn a b c d e) (hst a b c d e)
/-! ### if -/
theorem sds_ifM {τ : Type} {A B : Option τ} {t : τ} (hc : TD X ρ c p ρ1) (h : cond p A B = some t) (ha : A = some t → SDs X ρ1 body { k with nx := fun ρ' => SDs X ρ' r k }) (hb : B = some t → SDs X ρ1 orelse { k with nx := fun ρ' => SDs X ρ' r k }) : SDs X ρ (.If c body orelse pos :: r) k := by
  cases p with
  | true => exact sds_if hc (fun _ => ha (ct h)) (fun z => nomatch z)
  | false => exact sds_if hc (fun z => nomatch z) (fun _ => hb (cf h))
/-! ### loops -/
theorem sds_forC {σ : Type} (C : σ → Env) (hL : ∀ s, LocOk (C s)) (f : D → σ → Option σ) {s0 s1 : σ} (hi : ItD X ρ tg iter ds ρ1) (hf : forS f ds s0 = some s1) (h0 : Wk ρ1 (C s0))
    (hs : ∀ d s s', f d s = some s' → ∃ l, TG X vs tg d l ∧ SDs X ((C s).puts l) body { nx := fun ρ => Wk ρ (C s'), ct := fun ρ => Wk ρ (C s'), bk := fun _ => False, rt := k.rt })
    (hd : SDs X (C s1) r k) (hp : PassesOwn (model X.prog X.w) X.A X.env X.xe) (hc : X.calm = true) (hfs : ∀ x, foldedSetIterable iter X.env x = pure x) : SDs X ρ (.For tg iter body [] pos :: r) k :=
  sds_forS (vs := vs) (fun s ρ => Wk ρ (C s)) f hi hf h0 (fun d s s' ρ w h => by
    obtain ⟨l, h1, h2⟩ := hs d s s' h
    exact ⟨_, h1 ρ, sds_wk w.puts (hL s).puts h2⟩) (fun ρ w => sds_wk w (hL _) hd) hp hc hfs
def knC {σ τ : Type} (C : σ → Env) (RT : τ → D → List (Option OD) → Prop) (fl : Fl σ τ) : Kn := knF (fun s ρ => Wk ρ (C s)) RT fl
theorem sds_forCF {σ τ : Type} (C : σ → Env) (hL : ∀ s, LocOk (C s)) (RT : τ → D → List (Option OD) → Prop) (f : D → σ → Option (Fl σ τ)) {s0 : σ} {fl : Fl σ τ} (hi : ItD X ρ tg iter ds ρ1) (hf : forF f ds s0 = some fl) (h0 : Wk ρ1 (C s0))
    (hs : ∀ d s fl, f d s = some fl → ∃ l, TG X vs tg d l ∧ SDs X ((C s).puts l) body (knC C RT fl))
    (hd : ∀ s, fl = .nx s → SDs X (C s) r k) (hr : ∀ t d ow, fl = .rt t → RT t d ow → k.rt d ow) (hp : PassesOwn (model X.prog X.w) X.A X.env X.xe) (hc : X.calm = true) (hfs : ∀ x, foldedSetIterable iter X.env x = pure x) : SDs X ρ (.For tg iter body [] pos :: r) k :=
  sds_forF (vs := vs) (fun s ρ => Wk ρ (C s)) RT f hi hf h0 (fun d s fl ρ w h => by
    obtain ⟨l, h1, h2⟩ := hs d s fl h
    exact ⟨_, h1 ρ, sds_wk w.puts (hL s).puts h2⟩) (fun s ρ e w => sds_wk w (hL _) (hd s e)) hr hp hc hfs
/-! ### comprehensions -/
def lcG (f : D → Option (Option D)) (ds : List D) : Option (List D) := if ds.length ≤ sizeLine then lcM f ds else none
theorem lcG_ok {f : D → Option (Option D)} {out : List D} (h : lcG f ds = some out) : ds.length ≤ sizeLine ∧ lcM f ds = some out := by
  unfold lcG at h
  split at h
  · exact ⟨by assumption, h⟩
  · cases h
section
variable {f : D → Option (Option D)} {out : List D} {gv : List Nat} {scope : Scope} {own : List (Str × Nat)} {o : Option D}
theorem lcPC (hg : Blk X scope (fun Y => TG Y gv tg d l)) (ht : Blk X scope (fun Y => TDs Y ((⟨ρ1.m, wpE ρ1.sl vs, ρ1.ow⟩ : Env).puts l) ifs o.isSome ((⟨ρ1.m, wpE ρ1.sl vs, ρ1.ow⟩ : Env).puts l)))
    (he : ∀ e, o = some e → Blk X scope (fun Y => ED Y ((⟨ρ1.m, wpE ρ1.sl vs, ρ1.ow⟩ : Env).puts l) elt (.d e) ((⟨ρ1.m, wpE ρ1.sl vs, ρ1.ow⟩ : Env).puts l))) : LcP X scope gv vs ρ1 tg elt ifs d o :=
  ⟨_, fun a b c d e => hg a b c d e _, puts_m _ _, puts_ow _ _, ht, he⟩
theorem lcP0 (hg : Blk X scope (fun Y => TG Y gv tg d l)) (he : Blk X scope (fun Y => ED Y ((⟨ρ1.m, wpE ρ1.sl vs, ρ1.ow⟩ : Env).puts l) elt (.d w) ((⟨ρ1.m, wpE ρ1.sl vs, ρ1.ow⟩ : Env).puts l))) (h : some (some w) = some o) : LcP X scope gv vs ρ1 tg elt [] d o := by
  have e := sm h
  subst e
  exact lcPC hg (fun _ _ _ _ _ => tds_nil) (fun e h => by cases h; exact he)
theorem lcPif {B : Option (Option D)} (hg : Blk X scope (fun Y => TG Y gv tg d l)) (ht : Blk X scope (fun Y => TD Y ((⟨ρ1.m, wpE ρ1.sl vs, ρ1.ow⟩ : Env).puts l) c p ((⟨ρ1.m, wpE ρ1.sl vs, ρ1.ow⟩ : Env).puts l))) (h : cond p B (some none) = some o)
    (he : B = some o → ∃ e, some (some e) = some o ∧ Blk X scope (fun Y => ED Y ((⟨ρ1.m, wpE ρ1.sl vs, ρ1.ow⟩ : Env).puts l) elt (.d e) ((⟨ρ1.m, wpE ρ1.sl vs, ρ1.ow⟩ : Env).puts l))) : LcP X scope gv vs ρ1 tg elt [c] d o := by
  cases p with
  | true =>
    obtain ⟨e, e1, e2⟩ := he (ct h)
    have e1 := sm e1
    subst e1
    exact lcPC hg (fun a b c d e => tds_one (ht a b c d e)) (fun e h => by cases h; exact e2)
  | false =>
    have e1 := sm (cf h)
    subst e1
    exact lcPC hg (fun a b c d e => tds_one (ht a b c d e)) (fun e h => by cases h)
theorem ed_lcC (hi : ItD X ρ tg iter ds ρ1) (hf : lcG f ds = some out)
    (hs : ∀ d o, f d = some o → LcP X scope gv (own.map (·.2)) ρ1 tg elt ifs d o)
    (hgv : ∀ j ∈ gv, j ∈ own.map (·.2)) (ok : BlkOk X.N X.env.scope scope own) (hN : X.N.Nodup) (hc : X.calm = true) (hfs : ∀ x, foldedSetIterable iter X.env x = pure x) :
    ED X ρ (.ListComp elt [⟨tg, iter, ifs, 0⟩] scope pos) (.d (.lst out)) ρ1 := ed_lcM hi (lcG_ok hf).2 hs (lcG_ok hf).1 hgv ok hN hc hfs
theorem sds_lcC (i : Nat) {pos' spos : Pos} (hi : ItD X ρ tg iter ds ρ1) (hf : lcG f ds = some out)
    (hs : ∀ d o, f d = some o → LcP X scope gv (own.map (·.2)) ρ1 tg elt ifs d o) (h : SDs X (Env.put ρ1 i (.d (.lst out))) r k)
    (hgv : ∀ j ∈ gv, j ∈ own.map (·.2)) (ok : BlkOk X.N X.env.scope scope own) (hN : X.N.Nodup) (hc : X.calm = true)
    (hi' : X.N[i]? = some n) (hyl : X.env.scope.names.lookup n = some .local) (hsw : swapsWith (.ListComp elt [⟨tg, iter, ifs, 0⟩] scope pos) (some (.Name n pos')) spos.line X.env = pure true) (hfs : ∀ x, foldedSetIterable iter X.env x = pure x) :
    SDs X ρ (.Assign [.Name n pos'] (.ListComp elt [⟨tg, iter, ifs, 0⟩] scope pos) spos :: r) k := sds_lcM i hi (lcG_ok hf).2 hs (lcG_ok hf).1 h hgv ok hN hc hi' hyl hsw hfs
end
/-! ### a, b = e -/
/-! ### the middle of a chain is looked at once -/
theorem ED.sm {A : Option D} (h : some d = some w) (he : ED X ρ e (.d d) ρ1) : ED X ρ e (.d w) ρ1 := by
  have e := DL.sm h
  subst e
  exact he
theorem ED.smB (h : some p = some q) (he : ED X ρ e (.d (.bl p)) ρ1) : ED X ρ e (.d (.bl q)) ρ1 := by
  have e := DL.sm h
  subst e
  exact he
theorem TD.sm (h : some p = some q) (he : TD X ρ e p ρ1) : TD X ρ e q ρ1 := by
  have e := DL.sm h
  subst e
  exact he
/-! ### lists put together -/
def dAddX : D → D → Option D
  | .int i, .int j => some (.int (i + j))
  | .tup a, .tup b => if a.length + b.length ≤ sizeLine then some (.tup (a ++ b)) else none
  | .lst a, .lst b => if a.length + b.length ≤ sizeLine then some (.lst (a ++ b)) else none
  | _, _ => none
end
end DL

namespace DL
open PySem PySem.Spec PyProof.Rows L2
theorem kp_of {K : PySem.W.Frag} {x qual : Str} {params : Arguments} {body : List Stmt} {scope : Scope} {f : Addr} (h : ∃ fd, FunD K x qual params body scope [] [] f fd) : PySem.W.keepIn K (.ref f) = true := let ⟨_, F⟩ := h; F.kp
abbrev rowV (C : Addr) (b : D) : D := .ins C ["blocks"] [b]
section
variable {X : Cx} {ρ ρ' ρ0 ρ1 ρ2 ρ3 : Env} {e a b c tg iter elt : Expr} {es rest ifs : List Expr} {x y z : VD} {xs ys : List VD} {pos apos cpos pp spos : Pos} {p q : Bool} {st : Stmt} {r body orelse : List Stmt} {k : Kn} {ds ds' : List D} {u u' d d' w : D} {n m : Str} {R : FSpec} {vs ws : List Nat} {l l' : List (Nat × D)} {C : Addr} {ns : List Str}
theorem room_u {kk : Nat} {A : Around} (hr : Room kk A) : A.units + 64 < cLine := by have := hr.un; omega
theorem room_u65 {kk : Nat} {A : Around} (hr : Room kk A) : A.units + 65 < cLine := by have := hr.un; omega
theorem TW.sm (h : some p = some q) (he : TW X ρ e p ρ1) : TW X ρ e q ρ1 := by
  have e := DL.sm h
  subst e
  exact he
/-! lists put together -/
def rCatL (K : PySem.W.Frag) : R2 := fun x y H Q => ∃ l b xs zs, x = .ref l ∧ y = .ref b ∧ SqL K H l xs ∧ SqL K H b zs ∧ xs.length + zs.length ≤ sizeLine ∧ ∀ p, H p = none → Q (.ref p) (upd H p (.lst (xs ++ zs)))
theorem op_catL : OpR X (binaryOp .Add) (rCatL X.K) := by
  intro pins s σ H x y v u Q I rx ry h
  obtain ⟨l, b, xs, zs, rfl, rfl, hH, hB, hz, q⟩ := h
  cases rx
  cases ry
  obtain ⟨its, r, e, hl⟩ := I.list hH
  obtain ⟨its2, r2, e2, hl2⟩ := I.list hB
  have n1 := r.length
  have n2 := r2.length
  obtain ⟨⟨cls, dd, data, sl⟩, ho, hc, n, hd⟩ := id e.isList
  obtain ⟨⟨cls2, dd2, data2, sl2⟩, ho2, hc2, m2, hd2⟩ := id e2.isList
  simp only at hc hd hc2 hd2
  subst hc hd hc2 hd2
  have ea : its.toArray ++ its2.toArray = (its ++ its2).toArray := by simp
  refine concat_meets ⟨_, ho, rfl⟩ ⟨_, ho2, rfl⟩ noFill_list_add seq_list_add PySem.F.slot_list_add PySem.F.entry_list_add (PySem.F.args_list_add_2 _ _) (list_addW l b its.toArray its2.toArray n m2 dd dd2 sl sl2 (by rw [List.size_toArray, List.size_toArray]; omega)) ⟨ho, ho2, ?_⟩
  rw [ea]
  exact ⟨.ref _, _, I.lnew (t' := s.toks) (r.append r2) (by rw [List.length_append]; omega), rfl, q _ I.fresh⟩
theorem ed_catL (ha : ED X ρ a (.d (.lst ds)) ρ1) (hb : ED X ρ1 b (.d (.lst ds')) ρ2) (hz : ds.length + ds'.length ≤ sizeLine) : ED X ρ (.BinOp a .Add b pos) (.d (.lst (ds ++ ds'))) ρ2 :=
  ed_of (pe_op op_catL ha hb) fun σ H Q hk => two_ σ H Q _ hk fun fr S ad S1 H1 ad1 v1 v2 A st r1 r2 kk => by
    obtain ⟨l1, vs1, e1, e2, e3⟩ := r1.dd.lst_inv
    obtain ⟨l2, vs2, f1, f2, f3⟩ := r2.dd.lst_inv
    have n1 := e3.length
    have n2 := f3.length
    refine ⟨l1, l2, vs1, vs2, e1, f1, ex_l A.grow.sh e2, ex_l A.grow.sh f2, by omega, fun p hp => ?_⟩
    obtain ⟨A2, st2⟩ := A.newS (o := .lst (vs1 ++ vs2)) hp
    exact kk _ _ ad1 _ st2 A2 (.d (.lst (SqL.of upd_same) ((e3.append f3).mono st2.s)))
theorem ed_addX (ha : ED X ρ a (.d d) ρ1) (hb : ED X ρ1 b (.d d') ρ2) (h : dAddX d d' = some w) : ED X ρ (.BinOp a .Add b pos) (.d w) ρ2 := by
  unfold dAddX at h
  split at h
  · cases h; exact ed_add ha hb
  · split at h
    · cases h; exact ed_catT ha hb (by assumption)
    · cases h
  · split at h
    · cases h; exact ed_catL ha hb (by assumption)
    · cases h
  · cases h
/-! chains -/
theorem ed_neD (hu : X.A.units + 64 < cLine) (ha : ED X ρ a (.d d) ρ1) (hb : ED X ρ1 b (.d d') ρ2) (o1 : d.ok = true) (o2 : d'.ok = true) (s1 : d.dep ≤ 64) (s2 : d'.dep ≤ 64) (hp : p = true ↔ d ≠ d') (hm : behindInMarks .NotEq b = false := by rfl) : ED X ρ (.Compare a [.NotEq] [b] pos) (.d (.bl p)) ρ2 :=
  ed_of (pe_cmpR (op_neD hu) ha hb hm) fun σ H Q hk => two_ σ H Q _ hk fun fr S ad S1 H1 ad1 v1 v2 A st r1 r2 kk => by
    refine ⟨d.py, d'.py, Rp.dp A.grow.sh d o1 r1.dd, Rp.dp A.grow.sh d' o2 r2.dd, py_shaped o1 s1, py_shaped o2 s2, ?_⟩
    have e1 : (!PyData.eqv d.py d'.py) = p := by
      rw [Bool.eq_iff_iff, hp, Bool.not_eq_true', ← Bool.not_eq_true, py_eq d d' o1 o2]
    rw [e1]
    exact kk S1 H1 ad1 _ (.refl _ _) A (.d (.bl _))
theorem ed_neM (hu : X.A.units + 64 < cLine) (ha : ED X ρ a (.d d) ρ1) (hb : ED X ρ1 b (.d d') ρ2) (h : dNe d d' = some p) (hm : behindInMarks .NotEq b = false := by rfl) : ED X ρ (.Compare a [.NotEq] [b] pos) (.d (.bl p)) ρ2 := by
  obtain ⟨q, h', e⟩ := bnd h
  cases e
  clear h
  rcases dEq_cases h' with ⟨h1, rfl⟩ | ⟨o1, o2, s1, s2, hp⟩
  · exact ed_neS ha hb h1
  · exact ed_neD hu ha hb o1 o2 s1 s2 (by rw [ne_eq, ← hp]; cases q <;> simp) hm
/-! in -/
def decStr : D → Option Str
  | .str s => some s
  | _ => none
def decStrs : List D → Option (List Str)
  | [] => some []
  | d :: ds => (decStr d).bind fun i => (decStrs ds).bind fun r => some (i :: r)
theorem decStrs_ok : ∀ {ds : List D} {l : List Str}, decStrs ds = some l → ds = l.map D.str
  | [], l, h => by cases h; rfl
  | d :: ds, l, h => by
    obtain ⟨i, h1, h⟩ := bnd h
    obtain ⟨r, h2, h⟩ := bnd h
    cases h
    have e1 : d = .str i := by cases d <;> simp [decStr] at h1; subst h1; rfl
    rw [e1, decStrs_ok h2]; rfl
/-! max, min of three -/
theorem rv3 {K : PySem.W.Frag} {S : Hp} {ad : List Addr} {vs : List V} {x y z : VD} (h : RvAll K S ad vs [x, y, z]) : ∃ v w u, vs = [v, w, u] ∧ Rv K S ad v x ∧ Rv K S ad w y ∧ Rv K S ad u z := by
  cases h with
  | cons a t =>
    cases t with
    | cons b t =>
      cases t with
      | cons c t => cases t; exact ⟨_, _, _, rfl, a, b, c⟩
/-! match -/
def dM2 (v : D) : Option (Option (D × D)) := match v.seq? with
  | some [a, b] => some (some (a, b))
  | _ => if v.miss = true then some none else none
theorem dM2_hit {x y : D} (h : dM2 d = some (some (x, y))) : d.seq? = some [x, y] := by
  unfold dM2 at h
  split at h
  · rename_i e; cases h; exact e
  · split at h <;> cases h
theorem dM2_miss (h : dM2 d = some none) : d.miss = true := by
  unfold dM2 at h
  split at h
  · cases h
  · split at h
    · assumption
    · cases h
theorem sds_matchM {τ : Type} {A B : Option τ} {t : τ} (i j : Nat) {sub g : Expr} {b1 b2 : List Stmt} {n1 n2 : Str} {p1 p2 p3 p4 : Pos} {x y : D} (he : ED X ρ sub (.d d) ρ1) (hd : d.seq? = some [x, y]) (hg : TD X ((ρ1.put i (.d x)).put j (.d y)) g p ρ2) (h : cond p A B = some t)
    (h1 : A = some t → SDs X ρ2 b1 { k with nx := fun ρ' => SDs X ρ' r k }) (h2 : B = some t → SDs X ρ2 b2 { k with nx := fun ρ' => SDs X ρ' r k })
    (hc : X.calm = true) (hN : X.N.Nodup) (hi : X.N[i]? = some n1) (hj : X.N[j]? = some n2) (hx : Loc X.env.scope n1) (hy : Loc X.env.scope n2) (hfx : X.fn n1 = true ∨ X.env.scope.names.lookup n1 = some .local) (hfy : X.fn n2 = true ∨ X.env.scope.names.lookup n2 = some .local) :
    SDs X ρ (.Match sub [⟨.MatchSequence [.MatchAs none (some n1) p1, .MatchAs none (some n2) p2] p3, some g, b1⟩, ⟨.MatchAs none none p4, none, b2⟩] pos :: r) k := by
  cases p with
  | true => exact sds_matchHit i j he hd hg (fun _ => h1 (ct h)) (fun z => nomatch z) hc hN hi hj hx hy hfx hfy
  | false => exact sds_matchHit i j he hd hg (fun z => nomatch z) (fun _ => h2 (cf h)) hc hN hi hj hx hy hfx hfy
/-! slices, index -/
theorem decInt_ok {i : Int} (h : decInt d = some i) : d = .int i := by cases d <;> simp [decInt] at h; subst h; rfl
theorem pd_someM {i : Int} (h : ED X ρ e (.d d) ρ1) (hi : decInt d = some i) : PD X ρ (some e) (some i) ρ1 := by
  have := decInt_ok hi; subst this; exact pd_some h
/-! objects of the class Row -/
theorem cb_lenK (F : CS X C "__len__" R) (hR : R [.d (.ins C ns ds)] [] d []) (hw : dNat d = some w) : CBR X (.builtin "len") ρ [.d (.ins C ns ds)] (.d w) ρ := by
  cases d <;> simp only [dNat] at hw <;> try cases hw
  split at hw
  · rename_i hh; cases hw; exact cb_lenI F hR hh.1 hh.2
  · cases hw
abbrev rowO (C : Addr) (b : D) : OD := .ins C ["blocks"] [.d b]
theorem odd_rowO (C : Addr) (b : D) : ODD (rowO C b) (rowV C b) := .ins C _ allD1
/-- what __init__ of Row gives -/
def R_rowI (M : D → Option D) (C : Addr) : FSpec := fun xs os r os' => ∃ (a1 : D), xs = [.loc 0, .d a1] ∧ os = [.ins C [] []] ∧ r = .non ∧ ∃ t, os' = [.ins C ["blocks"] [.d t]] ∧ M a1 = some t
section
variable {M : D → Option D}
theorem starI (hd : AllD xs ds) (hz : ds.length ≤ sizeLine) (h : M (.tup ds) = some w) : starR (R_rowI M C) (.loc 0 :: xs) [.ins C [] []] .non [rowO C w] := ⟨.loc 0, xs, ds, rfl, hd, hz, _, rfl, rfl, rfl, _, rfl, h⟩
theorem ed_makeR (F : MKc X C n (starR (R_rowI M C))) (ha : AD X ρ (e :: es) xs ρ1) (hd : AllD xs ds) (hz : ds.length ≤ sizeLine) (h : M (.tup ds) = some w) (hg : Gl X n) (hdb : (n == ("__debug__" : Str)) = false)
    (he : starEach (e :: es) X.env = (false, eval e X.env) :: starEach es X.env) (hpl : (backTo pos (starEach es X.env)).any (·.1) = false) : ED X ρ (.Call (.Name n pp) (e :: es) [] pos) (.d (rowV C w)) ρ1 :=
  ed_make F ha hd (starI hd hz h) (odd_rowO C w) hg hdb he hpl
theorem ed_makeR0 (F : MKc X C n (starR (R_rowI M C))) (h : M (.tup []) = some w) (hg : Gl X n) (hdb : (n == ("__debug__" : Str)) = false) : ED X ρ (.Call (.Name n pp) [] [] pos) (.d (rowV C w)) ρ :=
  ed_make0 F (starI .nil (Nat.zero_le _) h) (odd_rowO C w) hg hdb
theorem ed_makeRS (F : MKc X C n (starR (R_rowI M C))) (ha : ED X ρ e (.d u) ρ1) (hu : dSeq u = some ds) (ht : dTup ds = some d) (h : M d = some w) (hg : Gl X n) (hdb : (n == ("__debug__" : Str)) = false)
    (hst : starEach [.Starred e spos] X.env = [(true, eval e X.env)]) : ED X ρ (.Call (.Name n pp) [.Starred e spos] [] pos) (.d (rowV C w)) ρ1 := by
  unfold dTup at ht
  split at ht
  · cases ht; exact ed_makeS F ha hu (starI (.of_map ds) (by assumption) h) (odd_rowO C w) hg hdb hst
  · cases ht
end
/-! x[i] by the class -/
structure CXs (P : Program) (w : World) (K : PySem.W.Frag) (mg : Str → Option Value) (base : Heap) (A : Around) (C : Addr) (m : Str) (R : FSpec) : Prop where
  cs : CSs P w K mg base A C m R
  fi : ∀ f, PySem.W.findIn K (.ref C) m = some (some (.ref f)) → PySem.W.fnIn K f = true
end
end DL

namespace DL
open PySem PySem.Spec PyProof.Rows L2
/-! ### min(lists, key=len) -/
section
variable {prog : Program} {w : World} {A : Around} {E : Value → Shared → Prop} {l J T : Addr} {vs : List Value} {R : Result → Shared → Prop} {Q : Value → Shared → Prop} {B : Heap}
/-- what stood in B stands -/
abbrev Stn (B h : Heap) : Prop := ∀ b o, B.get? b = some o → h.get? b = some o
theorem Stn.list {h : Heap} (k : Stn B h) {a : Addr} {its : Array Value} (x : B.IsList a its) : h.IsList a its := by
  obtain ⟨o, e1, e2⟩ := x
  exact ⟨o, k _ _ e1, e2⟩
end
section
variable {X : Cx} {ρ ρ' ρ0 ρ1 ρ2 ρ3 : Env} {e a b c tg iter elt : Expr} {es rest ifs : List Expr} {x y z : VD} {xs ys : List VD} {pos apos cpos pp kpos p2 : Pos} {p q : Bool} {ds ds' : List D} {u u' d d' w : D}
end
end DL

namespace DL
open PySem PySem.Spec PyProof.Rows L2
section
variable {X : Cx} {ρ ρ' ρ0 ρ1 ρ2 ρ3 : Env} {e a b c tg iter elt : Expr} {es rest ifs : List Expr} {x y z : VD} {xs ys : List VD} {pos apos cpos pp kpos p1 p2 p3 : Pos} {p q : Bool} {ds ds' : List D} {u u' d d' w : D} {n : Str}
/-! ### displays with a star -/
/-! ### any, all -/
def decBls : List D → Option (List Bool)
  | [] => some []
  | .bl b :: ds => (decBls ds).bind fun r => some (b :: r)
  | _ :: _ => none
theorem decBls_ok : ∀ {ds : List D} {l : List Bool}, decBls ds = some l → ds = l.map D.bl
  | [], l, h => by cases h; rfl
  | d :: ds, l, h => by
    unfold decBls at h
    split at h
    · rename_i e; cases e
    · rename_i t ds' e
      cases e
      obtain ⟨r, h1, h⟩ := bnd h
      cases h
      rw [decBls_ok h1]; rfl
    · cases h
theorem RpAll.bls {K : PySem.W.Frag} {S : Hp} : ∀ {ns : List Bool} {vs : List V}, RpAll K S vs (ns.map D.bl) → vs = ns.map V.bl
  | [], _, h => by cases h; rfl
  | n :: ns, _, h => by
    cases h with
    | cons a b =>
      cases a
      rw [RpAll.bls b]; rfl
def dAll : D → Option D
  | .lst ds => (decBls ds).bind fun l => some (.bl (l.all id))
  | _ => none
theorem cb_allM (hc : X.calm = true) (h : dAll d = some w) : CBR X (.builtin "all") ρ [.d d] (.d w) ρ := by
  cases d <;> simp only [dAll] at h <;> try cases h
  obtain ⟨l, e, h⟩ := bnd h
  cases h
  refine ⟨_, cr_all hc, fun fr σ S H ad vs Q A r0 k => ?_⟩
  obtain ⟨v, rfl, r⟩ := rv1 r0
  obtain ⟨p, ys, e1, e2, e3⟩ := r.dd.lst_inv
  rw [decBls_ok e] at e3
  have e4 := e3.bls
  subst e4
  exact ⟨p, l, by rw [e1], ex_l A.grow.sh e2, k _ _ _ _ (.refl _ _) A (.d (.bl _))⟩
/-! ### sorted(set(pairs)) -/
abbrev IP := Int × Int
def ipLt (p q : IP) : Prop := p.1 < q.1 ∨ (p.1 = q.1 ∧ p.2 < q.2)
instance (p q : IP) : Decidable (ipLt p q) := inferInstanceAs (Decidable (_ ∨ _))
end
end DL

namespace DL
open PySem PySem.Spec PyProof.Rows L2
section
variable {X : Cx} {ρ ρ' ρ0 ρ1 ρ2 ρ3 : Env} {e a b c tg iter elt : Expr} {es rest ifs : List Expr} {x y z : VD} {xs ys : List VD} {pos apos cpos pp kpos p1 p2 p3 : Pos} {p q : Bool} {ds ds' dt : List D} {u u' d d' w rr : D} {n m f : Str} {C : Addr} {nms : List Str} {fxs : List VD} {R : FSpec} {os os' : List OD} {ns : List Nat} {o : Nat}
/-! ### an instance that is ours -/
/-! properties -/
structure CPs (P : Program) (w : World) (K : PySem.W.Frag) (mg : Str → Option Value) (base : Heap) (A : Around) (C : Addr) (f : Str) (R : FSpec) : Prop where
  cl : Cls K C
  ex : ∃ p g fd k, PropOf K C f p g ∧ FnOk P w K mg base CX0 k g fd ["self"] (spF K R) ∧ Binds K fd ["self"] [] ∧ Room (k + 1) A
abbrev CP (X : Cx) : Addr → Str → FSpec → Prop := CPs X.prog X.w X.K X.mg X.base X.A
theorem CX0_pass' {X : Cx} {E : XK} : Passes CX0 X.nox E := fun _ _ _ _ _ _ _ h => h.elim
theorem ed_propM (F : CP X C f R) (ho : ED X ρ a (.d (.ins C nms ds)) ρ1) (hR : R [.d (.ins C nms ds)] [] rr []) (hb : attributeBase a f X.env (eval a X.env) = eval a X.env := by rfl) : ED X ρ (.Attribute a f pos) (.d rr) ρ1 := by
  obtain ⟨p, g, fd, k, hp, G, hb', hr⟩ := F.ex
  refine ed_of (pe_prop (E := E0) (dvs := []) (ds := []) ho F.cl hp G hr hb' .nil CX0_pass' hb) fun σ H Q ⟨fr, S, ad, A, kk⟩ => ⟨fr, S, ad, A, fun S1 H1 ad1 v st1 A1 r1 => ?_⟩
  obtain ⟨l, dx, vs, e1, e2, e3, e4⟩ := r1.dd.ins_inv
  refine ⟨l, dx, _, e1, A1.grow.sh _ _ e2, ?_⟩
  subst e1
  exact A1.call (E := E0) (xs := [.d (.ins C nms ds)]) (.cons r1 .nil) (.cons (.d _) .nil) Lend.nil hR rfl fun S' H' v' st' A' rp => kk S' H' ad1 v' (st1.trans st') A' (.d rp)
/-! len(o), o ours -/
/-! e in o -/
theorem Lend.two {ow : List (Option OD)} {n m : Nat} {o o' : OD} (h : ow[n]? = some (some o)) (hf : o.free) (h' : ow[m]? = some (some o')) (hf' : o'.free) (hne : n ≠ m) : Lend ow [n, m] [o, o'] := ⟨rfl, by simp [hne], fun i k e => by
  cases i with
  | zero => simp at e; subst e; exact ⟨o, h, rfl, hf⟩
  | succ i =>
    cases i with
    | zero => simp at e; subst e; exact ⟨o', h', rfl, hf'⟩
    | succ i => simp at e⟩
/-! ~o -/
end
end DL

namespace DL
open PySem PySem.Spec PyProof.Rows L2
section
variable {X : Cx} {ρ ρ' ρ0 ρ1 ρ2 ρ3 : Env} {e a b c tg iter elt : Expr} {es rest ifs : List Expr} {x y z : VD} {xs ys : List VD} {pos apos cpos pp kpos p1 p2 p3 : Pos} {p q : Bool} {ds ds' dt : List D} {u u' d d' w rr : D} {n m f : Str}
/-! ### and, or that change what is ours -/
theorem TW.env (he : TW X ρ e p ρ1) (h : ρ1 = ρ2) : TW X ρ e p ρ2 := h ▸ he
theorem TD.env (he : TD X ρ e p ρ1) (h : ρ1 = ρ2) : TD X ρ e p ρ2 := h ▸ he
/-! ### a tuple so many times -/
theorem RpAll.rep {K : PySem.W.Frag} {S : Hp} {v : V} (h : Rp K S v d) : ∀ n : Nat, RpAll K S (List.replicate n v) (List.replicate n d)
  | 0 => .nil
  | n + 1 => .cons h (RpAll.rep h n)
/-! ### min, max of a list of ints -/
/-! ### index of an int -/
/-! ### sorted of ints -/
end
end DL

namespace DL
open PySem PySem.Spec PyProof.Rows L2
/-! ### dicts with int keys -/
abbrev DM := List (Int × D)
def dKs (m : DM) : List Key := m.map fun p => .inl p.1
def dVs (m : DM) : List D := m.map (·.2)
def dcD (m : DM) : D := .dic (dKs m) (dVs m)
def decK : List Key → List D → Option DM
  | [], [] => some []
  | .inl i :: ks, d :: ds => (decK ks ds).bind fun r => some ((i, d) :: r)
  | _, _ => none
theorem decK_of : ∀ m : DM, decK (dKs m) (dVs m) = some m
  | [] => rfl
  | (i, d) :: m => by
    show (decK (dKs m) (dVs m)).bind _ = _
    rw [decK_of m]; rfl
def decDic : D → Option DM
  | .dic ks ds => decK ks ds
  | _ => none
@[simp] theorem decDic_of (m : DM) : decDic (dcD m) = some m := decK_of m
def mGet : DM → Int → Option D
  | [], _ => none
  | (k, d) :: m, i => if k = i then some d else mGet m i
def mPut : DM → Int → D → DM
  | [], i, d => [(i, d)]
  | (k, e) :: m, i, d => if k = i then (k, d) :: mRep m i d else (k, e) :: mPut m i d
where mRep : DM → Int → D → DM
  | [], _, _ => []
  | (k, e) :: m, i, d => (if k = i then (k, d) else (k, e)) :: mRep m i d
/-- raw tables and theirs -/
def RK (K : PySem.W.Frag) (S : Hp) : List (Key × V) → DM → Prop
  | [], [] => True
  | (k, v) :: r, (i, d) :: m => k = .inl i ∧ Rp K S v d ∧ RK K S r m
  | _, _ => False
section
variable {K : PySem.W.Frag} {S S' : Hp}
theorem RK.mono (e : Ex S S') : ∀ {kvs : List (Key × V)} {m : DM}, RK K S kvs m → RK K S' kvs m
  | [], [], _ => trivial
  | (k, v) :: r, (i, d) :: m, ⟨h1, h2, h3⟩ => ⟨h1, h2.mono e, RK.mono e h3⟩
  | [], _ :: _, h => h.elim
  | _ :: _, [], h => h.elim
theorem RK.length : ∀ {kvs : List (Key × V)} {m : DM}, RK K S kvs m → kvs.length = m.length
  | [], [], _ => rfl
  | (k, v) :: r, (i, d) :: m, ⟨h1, h2, h3⟩ => by simp [RK.length h3]
  | [], _ :: _, h => h.elim
  | _ :: _, [], h => h.elim
theorem RK.to : ∀ {kvs : List (Key × V)} {m : DM}, RK K S kvs m → ∃ vs, kvs = (dKs m).zip vs ∧ (dKs m).length = vs.length ∧ RpAll K S vs (dVs m)
  | [], [], _ => ⟨[], rfl, rfl, .nil⟩
  | (k, v) :: r, (i, d) :: m, ⟨h1, h2, h3⟩ => by
    obtain ⟨vs, e1, e2, e3⟩ := RK.to h3
    subst h1 e1
    exact ⟨v :: vs, rfl, by simp [dKs] at e2 ⊢; exact e2, .cons h2 e3⟩
  | [], _ :: _, h => h.elim
  | _ :: _, [], h => h.elim
theorem RK.of : ∀ {m : DM} {vs : List V}, RpAll K S vs (dVs m) → RK K S ((dKs m).zip vs) m
  | [], vs, _ => by show RK K S ([].zip vs) []; simp [RK]
  | (i, d) :: m, _, h => by
    cases h with
    | cons a b => exact ⟨rfl, a, RK.of b⟩
theorem RK.val : ∀ {kvs : List (Key × V)} {m : DM} (h : RK K S kvs m) (i : Int), (∃ v d, valV kvs (.inl i) = some v ∧ mGet m i = some d ∧ Rp K S v d) ∨ (valV kvs (.inl i) = none ∧ mGet m i = none)
  | [], [], _, i => .inr ⟨rfl, rfl⟩
  | (k, v) :: r, (j, d) :: m, ⟨h1, h2, h3⟩, i => by
    subst h1
    unfold mGet
    by_cases e : j = i
    · subst e
      exact .inl ⟨v, d, valV_pos rfl, by rw [if_pos rfl], h2⟩
    · rw [valV_neg (by intro z; exact e (Sum.inl.inj z)), if_neg e]
      exact RK.val h3 i
  | [], _ :: _, h, _ => h.elim
  | _ :: _, [], h, _ => h.elim
theorem RK.rep {i : Int} {v : V} {d : D} (hd : Rp K S v d) : ∀ {kvs : List (Key × V)} {m : DM}, RK K S kvs m → RK K S (kvs.map fun kv => if kv.1 = .inl i then (kv.1, v) else kv) (mPut.mRep m i d)
  | [], [], _ => trivial
  | (k, w) :: r, (j, e) :: m, ⟨h1, h2, h3⟩ => by
    subst h1
    have ih := RK.rep (i := i) hd h3
    rw [List.map_cons]
    unfold mPut.mRep
    by_cases q : j = i
    · subst q
      rw [if_pos rfl, if_pos rfl]
      exact ⟨rfl, hd, ih⟩
    · rw [if_neg (by intro z; exact q (Sum.inl.inj z)), if_neg q]
      exact ⟨rfl, h2, ih⟩
  | [], _ :: _, h => h.elim
  | _ :: _, [], h => h.elim
theorem putK_cons_ne {k k' : Key} {w v : V} {r : List (Key × V)} (h : ¬ k' = k) : putK ((k', w) :: r) k v = (k', w) :: putK r k v := by
  unfold putK
  rw [List.any_cons, decide_eq_false h, Bool.false_or]
  split
  · rw [List.map_cons, if_neg h]
  · rfl
theorem putK_cons_eq {k : Key} {w v : V} {r : List (Key × V)} : putK ((k, w) :: r) k v = (k, v) :: r.map (fun kv => if kv.1 = k then (kv.1, v) else kv) := by
  unfold putK
  rw [List.any_cons, decide_eq_true rfl, Bool.true_or, if_pos rfl, List.map_cons, if_pos rfl]
theorem RK.put {i : Int} {v : V} {d : D} (hd : Rp K S v d) : ∀ {kvs : List (Key × V)} {m : DM}, RK K S kvs m → RK K S (putK kvs (.inl i) v) (mPut m i d)
  | [], [], _ => ⟨rfl, hd, trivial⟩
  | (k, w) :: r, (j, e) :: m, ⟨h1, h2, h3⟩ => by
    subst h1
    unfold mPut
    by_cases q : j = i
    · subst q
      rw [putK_cons_eq, if_pos rfl]
      exact ⟨rfl, hd, RK.rep hd h3⟩
    · rw [putK_cons_ne (by intro z; exact q (Sum.inl.inj z)), if_neg q]
      exact ⟨rfl, h2, RK.put hd h3⟩
  | [], _ :: _, h => h.elim
  | _ :: _, [], h => h.elim
theorem RK.rp {a : Addr} {o : Obj} {kvs : List (Key × V)} {m : DM} (h : RK K S kvs m) (e : S a = some (.frz o (.dK kvs))) : Rp K S (.ref a) (dcD m) := by
  obtain ⟨vs, e1, e2, e3⟩ := h.to
  subst e1
  exact .dic e e2 e3
end
/-! a dict of ours is given up: it is locked -/
section
variable {X : Cx} {ρ ρ' ρ0 ρ1 ρ2 ρ3 : Env} {e a b c tg iter elt : Expr} {es rest ifs : List Expr} {x y z : VD} {xs ys : List VD} {pos apos cpos pp : Pos} {p q : Bool} {st : Stmt} {r body orelse : List Stmt} {k : Kn} {ds ds' : List D} {u u' d d' w : D} {n : Str} {R : FSpec} {m m' : DM}
/-! reading -/
/-! writing -/
/-! walking -/
end
end DL

namespace DL
open PySem PySem.Spec PyProof.Rows L2
section
variable {X : Cx} {ρ ρ' ρ0 ρ1 ρ2 ρ3 : Env} {e a b c tg iter elt kx vx : Expr} {es rest ifs : List Expr} {x y z : VD} {xs ys : List VD} {pos apos cpos pp : Pos} {p q : Bool} {st : Stmt} {r body orelse : List Stmt} {k : Kn} {ds ds' : List D} {u u' d d' w : D} {n : Str} {R : FSpec} {m m' : DM}
/-! a new dict that is data: locked when it is there -/
/-! dict(pairs) -/
/-! == and != of dicts that are equal, values ints -/
/-! {k: v} -/
/-! {k: v for ..}, nothing is changed -/
end
end DL

namespace DL
open PySem PySem.Spec PyProof.Rows L2
section
variable {X : Cx} {ρ ρ' ρ0 ρ1 ρ2 ρ3 : Env} {e a b c tg iter elt kx vx : Expr} {es rest ifs : List Expr} {x y z : VD} {xs ys : List VD} {pos apos cpos pp : Pos} {p q : Bool} {st : Stmt} {r body orelse : List Stmt} {k : Kn} {ds ds' : List D} {u u' d d' w : D} {n : Str} {R : FSpec} {m m' : DM} {l : List (Nat × D)} {vs : List Nat}
/-! {k: v for ..} -/
/-! a part of a list or tuple -/
def dCutX (u : D) (i j : Option Int) : Option D := match u with
  | .lst ds => some (.lst (DL.cutD ds i j))
  | .tup ds => some (.tup (DL.cutD ds i j))
  | _ => none
theorem ed_sliceX {lo hi : Option Expr} {i j : Option Int} {p2 : Pos} (ha : ED X ρ a (.d d) ρ1) (hl : PD X ρ1 lo i ρ2) (hh : PD X ρ2 hi j ρ3) (h : dCutX d i j = some w) : ED X ρ (.Subscript a (.Slice lo hi none p2) pos) (.d w) ρ3 := by
  cases d <;> simp only [dCutX] at h <;> try cases h
  · exact ed_slice ha hl hh
  · rename_i ds
    refine ed_of (pe_slice sl_tupA ha hl hh) fun σ H Q ⟨fr, S, ad, A, kk⟩ => ⟨fr, S, ad, A, fun S1 H1 ad1 v st1 A1 r1 => ⟨fr, S1, ad1, A1, fun S2 H2 ad2 st2 A2 => ⟨fr, S2, ad2, A2, fun S3 H3 ad3 st3 A3 => ?_⟩⟩⟩
    obtain ⟨l, vs, e1, e2, e3⟩ := (r1.mono (st2.trans st3)).dd.tup_at
    refine ⟨l, vs, e1, ex_t A3.grow.sh (SqT.of e2), fun hw => ?_, fun _ p hp => ?_⟩
    · have e4 : DL.cutD ds i j = ds := by
        unfold DL.cutD
        rw [← e3.length, hw.1, hw.2, Nat.sub_zero, List.drop_zero, e3.length, List.take_length]
      rw [e4] at kk
      exact kk S3 H3 ad3 _ ((st1.trans st2).trans st3) A3 (.d (.tup e2 e3))
    · obtain ⟨A4, st4⟩ := A3.newS (o := .tup (cutV vs i j)) hp
      exact kk _ _ ad3 _ (((st1.trans st2).trans st3).trans st4) A4 (.d (.tup upd_same ((cutD_ok e3 i j).mono st4.s)))
/-! an object and an int, by a method of ours -/
end
end DL

namespace DL
open PySem PySem.Spec PyProof.Rows L2
/-! ### objects compared by a method of ours -/
section
variable {M : Model} {prog : Program} {w : World} {A : Around} {E : Value → Shared → Prop} {s : Shared} {K : PySem.W.Frag} {x C f : Addr} {ox : Obj} {od : Option Obj}
end
section
variable {X : Cx} {ρ ρ1 ρ2 : Env} {a b : Expr} {pos : Pos} {p : Bool} {ds ds' : List D} {C : Addr} {ns : List Str} {R : FSpec} {rr : D}
end
end DL

namespace DL
open PySem PySem.Spec PyProof.Rows L2
/-! ### isinstance(x, a class of ours) -/
section
variable {X : Cx} {ρ : Env} {ds : List D} {C : Addr} {ns : List Str}
end
end DL

namespace DL
open PySem PySem.Spec PyProof.Rows L2
/-! ### sorted of a list of pairs -/
section
variable {X : Cx}
end
section
variable {X : Cx} {ρ : Env} {d w : D}
end
end DL

namespace DL
open PySem PySem.Spec PyProof.Rows L2
/-! ### dicts with tuple keys -/
def kD : Key → D
  | .inl i => .int i
  | .inr s => .str s
def decKey : D → Option Key
  | .int i => some (.inl i)
  | .str s => some (.inr s)
  | _ => none
@[simp] theorem decKey_of (k : Key) : decKey (kD k) = some k := by cases k <;> rfl
def decKeys : List D → Option (List Key)
  | [] => some []
  | d :: ds => (decKey d).bind fun k => (decKeys ds).bind fun r => some (k :: r)
@[simp] theorem decKeys_of : ∀ ks : List Key, decKeys (ks.map kD) = some ks
  | [] => rfl
  | k :: ks => by
    show (decKey (kD k)).bind _ = _
    rw [decKey_of]
    show (decKeys (ks.map kD)).bind _ = _
    rw [decKeys_of ks]; rfl
abbrev tkD (ks : List Key) : D := .tup (ks.map kD)
def decTK : D → Option (List Key)
  | .tup ds => decKeys ds
  | _ => none
@[simp] theorem decTK_of (ks : List Key) : decTK (tkD ks) = some ks := decKeys_of ks
theorem Rp.key {K : PySem.W.Frag} {S : Hp} {v : V} {k : Key} (h : Rp K S v (kD k)) : v = kV k := by
  cases k with
  | inl i => exact h.int_inv
  | inr s => exact h.str_inv
theorem RpAll.keys {K : PySem.W.Frag} {S : Hp} : ∀ {ks : List Key} {vs : List V}, RpAll K S vs (ks.map kD) → vs = ks.map kV
  | [], _, h => by cases h; rfl
  | k :: ks, _, h => by
    cases h with
    | cons a b => rw [a.key, RpAll.keys b]; rfl
abbrev TM := List (List Key × D)
def tKs (m : TM) : List (List Key) := m.map (·.1)
def tVs (m : TM) : List D := m.map (·.2)
def dtD (m : TM) : D := .dit (tKs m) (tVs m)
def tGet : TM → List Key → Option D
  | [], _ => none
  | (k, d) :: m, i => if k = i then some d else tGet m i
def tPut : TM → List Key → D → TM
  | [], i, d => [(i, d)]
  | (k, e) :: m, i, d => if k = i then (k, d) :: tRep m i d else (k, e) :: tPut m i d
where tRep : TM → List Key → D → TM
  | [], _, _ => []
  | (k, e) :: m, i, d => (if k = i then (k, d) else (k, e)) :: tRep m i d
def decDit : D → Option TM
  | .dit ks ds => if ks.length = ds.length then some (ks.zip ds) else none
  | _ => none
@[simp] theorem decDit_of (m : TM) : decDit (dtD m) = some m := by
  unfold dtD decDit
  dsimp only
  rw [if_pos (by simp [tKs, tVs])]
  congr 1
  unfold tKs tVs
  induction m with
  | nil => rfl
  | cons p m ih => simp only [List.map_cons, List.zip_cons_cons, ih]
def RT (K : PySem.W.Frag) (S : Hp) : List (List Key × V) → TM → Prop
  | [], [] => True
  | (k, v) :: r, (i, d) :: m => k = i ∧ Rp K S v d ∧ RT K S r m
  | _, _ => False
section
variable {K : PySem.W.Frag} {S S' : Hp}
theorem RT.mono (e : Ex S S') : ∀ {kvs : List (List Key × V)} {m : TM}, RT K S kvs m → RT K S' kvs m
  | [], [], _ => trivial
  | (k, v) :: r, (i, d) :: m, ⟨h1, h2, h3⟩ => ⟨h1, h2.mono e, RT.mono e h3⟩
  | [], _ :: _, h => h.elim
  | _ :: _, [], h => h.elim
theorem RT.length : ∀ {kvs : List (List Key × V)} {m : TM}, RT K S kvs m → kvs.length = m.length
  | [], [], _ => rfl
  | (k, v) :: r, (i, d) :: m, ⟨h1, h2, h3⟩ => by simp [RT.length h3]
  | [], _ :: _, h => h.elim
  | _ :: _, [], h => h.elim
theorem RT.to : ∀ {kvs : List (List Key × V)} {m : TM}, RT K S kvs m → ∃ vs, kvs = (tKs m).zip vs ∧ (tKs m).length = vs.length ∧ RpAll K S vs (tVs m)
  | [], [], _ => ⟨[], rfl, rfl, .nil⟩
  | (k, v) :: r, (i, d) :: m, ⟨h1, h2, h3⟩ => by
    obtain ⟨vs, e1, e2, e3⟩ := RT.to h3
    subst h1 e1
    exact ⟨v :: vs, rfl, by simp [tKs] at e2 ⊢; exact e2, .cons h2 e3⟩
  | [], _ :: _, h => h.elim
  | _ :: _, [], h => h.elim
theorem RT.of : ∀ {m : TM} {vs : List V}, RpAll K S vs (tVs m) → RT K S ((tKs m).zip vs) m
  | [], vs, _ => by show RT K S ([].zip vs) []; simp [RT]
  | (i, d) :: m, _, h => by
    cases h with
    | cons a b => exact ⟨rfl, a, RT.of b⟩
theorem RT.val : ∀ {kvs : List (List Key × V)} {m : TM} (h : RT K S kvs m) (i : List Key), (∃ v d, valV kvs i = some v ∧ tGet m i = some d ∧ Rp K S v d) ∨ (valV kvs i = none ∧ tGet m i = none)
  | [], [], _, i => .inr ⟨rfl, rfl⟩
  | (k, v) :: r, (j, d) :: m, ⟨h1, h2, h3⟩, i => by
    subst h1
    unfold tGet
    by_cases e : k = i
    · subst e
      exact .inl ⟨v, d, valV_pos rfl, by rw [if_pos rfl], h2⟩
    · rw [valV_neg e, if_neg e]
      exact RT.val h3 i
  | [], _ :: _, h, _ => h.elim
  | _ :: _, [], h, _ => h.elim
theorem RT.rep {i : List Key} {v : V} {d : D} (hd : Rp K S v d) : ∀ {kvs : List (List Key × V)} {m : TM}, RT K S kvs m → RT K S (kvs.map fun kv => if kv.1 = i then (kv.1, v) else kv) (tPut.tRep m i d)
  | [], [], _ => trivial
  | (k, w) :: r, (j, e) :: m, ⟨h1, h2, h3⟩ => by
    subst h1
    have ih := RT.rep (i := i) hd h3
    rw [List.map_cons]
    unfold tPut.tRep
    by_cases q : k = i
    · subst q
      rw [if_pos rfl, if_pos rfl]
      exact ⟨rfl, hd, ih⟩
    · rw [if_neg q, if_neg q]
      exact ⟨rfl, h2, ih⟩
  | [], _ :: _, h => h.elim
  | _ :: _, [], h => h.elim
theorem putT_cons_ne {k k' : List Key} {w v : V} {r : List (List Key × V)} (h : ¬ k' = k) : putK ((k', w) :: r) k v = (k', w) :: putK r k v := by
  unfold putK
  rw [List.any_cons, decide_eq_false h, Bool.false_or]
  split
  · rw [List.map_cons, if_neg h]
  · rfl
theorem putT_cons_eq {k : List Key} {w v : V} {r : List (List Key × V)} : putK ((k, w) :: r) k v = (k, v) :: r.map (fun kv => if kv.1 = k then (kv.1, v) else kv) := by
  unfold putK
  rw [List.any_cons, decide_eq_true rfl, Bool.true_or, if_pos rfl, List.map_cons, if_pos rfl]
theorem RT.put {i : List Key} {v : V} {d : D} (hd : Rp K S v d) : ∀ {kvs : List (List Key × V)} {m : TM}, RT K S kvs m → RT K S (putK kvs i v) (tPut m i d)
  | [], [], _ => ⟨rfl, hd, trivial⟩
  | (k, w) :: r, (j, e) :: m, ⟨h1, h2, h3⟩ => by
    subst h1
    unfold tPut
    by_cases q : k = i
    · subst q
      rw [putT_cons_eq, if_pos rfl]
      exact ⟨rfl, hd, RT.rep hd h3⟩
    · rw [putT_cons_ne q, if_neg q]
      exact ⟨rfl, h2, RT.put hd h3⟩
  | [], _ :: _, h => h.elim
  | _ :: _, [], h => h.elim
theorem RT.rp {a : Addr} {o : Obj} {kvs : List (List Key × V)} {m : TM} (h : RT K S kvs m) (e : S a = some (.frz o (.dT kvs))) : Rp K S (.ref a) (dtD m) := by
  obtain ⟨vs, e1, e2, e3⟩ := h.to
  subst e1
  exact .dit e e2 e3
end
section
variable {X : Cx} {ρ ρ' ρ0 ρ1 ρ2 ρ3 : Env} {e a b c tg iter elt : Expr} {es rest ifs : List Expr} {x y z : VD} {xs ys : List VD} {pos apos cpos pp : Pos} {p q : Bool} {st : Stmt} {r body orelse : List Stmt} {k : Kn} {ds ds' : List D} {u u' d d' w : D} {n : Str} {R : FSpec} {m m' : TM}
/-! is a key there -/
theorem RK.has {K : PySem.W.Frag} {S : Hp} {kvs : List (Key × V)} {m : DM} (h : RK K S kvs m) (i : Int) : (valV kvs (.inl i)).isSome = (mGet m i).isSome := by
  rcases h.val i with ⟨v, d, e1, e2, _⟩ | ⟨e1, e2⟩ <;> rw [e1, e2] <;> rfl
theorem RT.has {K : PySem.W.Frag} {S : Hp} {kvs : List (List Key × V)} {m : TM} (h : RT K S kvs m) (i : List Key) : (valV kvs i).isSome = (tGet m i).isSome := by
  rcases h.val i with ⟨v, d, e1, e2, _⟩ | ⟨e1, e2⟩ <;> rw [e1, e2] <;> rfl
/-! walking -/
/-! list and tuple of a range -/
end
end DL

namespace DL
open PySem PySem.Spec PyProof.Rows L2
/-! ### membership by equality -/
theorem any_py {d : D} (hd : d.ok = true) : ∀ {ds : List D}, okAll ds = true → (((pyAll ds).any fun z => PyData.eqv z d.py) = true ↔ d ∈ ds)
  | [], _ => by simp [pyAll]
  | e :: ds, h => by
    simp only [okAll, Bool.and_eq_true] at h
    simp only [pyAll, List.any_cons, Bool.or_eq_true, List.mem_cons, any_py hd h.2, py_eq e d h.1 hd]
    constructor
    · rintro (h | h)
      · exact .inl h.symm
      · exact .inr h
    · rintro (h | h)
      · exact .inl h.symm
      · exact .inr h
section
variable {X : Cx} {ρ ρ' ρ0 ρ1 ρ2 ρ3 : Env} {e a b c tg iter elt : Expr} {es rest ifs : List Expr} {x y z : VD} {xs ys : List VD} {pos apos cpos pp : Pos} {p q : Bool} {st : Stmt} {r body orelse : List Stmt} {k : Kn} {ds ds' : List D} {u u' d d' w : D} {n : Str} {R : FSpec}
/-! ### a field as a target among others -/
/-! ### several targets, objects of ours among the values -/
end
end DL

namespace DL
open PySem PySem.Spec PyProof.Rows L2
/-! ### exceptions -/
/-- an exception: its class, its fields -/
structure XV where
  cls : Addr
  ns : List Str
  ds : List D
def IsX (K : PySem.W.Frag) (S H : Hp) (cls : Value) (d : Option Addr) (x : XV) : Prop := cls = .ref x.cls ∧
  ((x.ns = [] ∧ x.ds = [] ∧ d = none) ∨ ∃ dx vs, d = some dx ∧ x.ns.length = vs.length ∧ S dx = some (.xd (x.ns.zip vs)) ∧ RpAll K S vs x.ds)
abbrev XSpec := List VD → List OD → XV → List OD → Prop
def spX (K : PySem.W.Frag) (RX : XSpec) : Sp := fun vs H _ E => ∃ S M xs os x os', Ex S H ∧ RvAll K S M vs xs ∧ OwnA K S H M os ∧ M.Nodup ∧ RX xs os x os' ∧ (∀ o ∈ os, o.free) ∧
  ∀ S' H' cls d, Grow M S H S' H' → IsX K S' H' cls d x → OwnA K S' H' M os' → E cls d H'
/-- e raises x -/
def tEX (K : PySem.W.Frag) (ρ : Env) (x : XV) (ρ' : Env) (E : XK) : TE := fun σ H Q => ∃ fr S ad, Rel K fr ρ σ S H ad ∧ ∀ S' H' ad' cls d, Step S ad S' ad' → Rel K fr ρ' σ S' H' ad' → IsX K S' H' cls d x → E cls d H'
def tAX (K : PySem.W.Frag) (ρ : Env) (x : XV) (ρ' : Env) (E : XK) : TA := fun σ H Q => ∃ fr S ad, Rel K fr ρ σ S H ad ∧ ∀ S' H' ad' cls d, Step S ad S' ad' → Rel K fr ρ' σ S' H' ad' → IsX K S' H' cls d x → E cls d H'
def EX (X : Cx) (E : XK) (ρ : Env) (e : Expr) (x : XV) (ρ' : Env) : Prop := PE X e (tEX X.K ρ x ρ' E)
def AX (X : Cx) (E : XK) (ρ : Env) (es : List Expr) (x : XV) (ρ' : Env) : Prop := PA X es (tAX X.K ρ x ρ' E)
/-- the context lets exceptions out to E -/
abbrev Lets (X : Cx) (E : XK) : Prop := Takes X (fun cls d _ H => E cls d H)
/-- statements raise x, P: the state then; or they end, N: the state then -/
def tSX (K : PySem.W.Frag) (ρ : Env) (x : XV) (P : Env → Prop) (N : Env → Prop) (E : XK) : TS := fun Dn σ H => ∃ fr S ad, Rel K fr ρ σ S H ad ∧ (∀ ρ' σ' S' H' ad' cls d, P ρ' → Rel K fr ρ' σ' S' H' ad' → IsX K S' H' cls d x → E cls d H') ∧ ∀ ρ' σ' S' H' ad', N ρ' → Rel K fr ρ' σ' S' H' ad' → Dn.nx σ' H'
def SX (X : Cx) (E : XK) (ρ : Env) (st : Stmt) (x : XV) (P N : Env → Prop) : Prop := PS X st (tSX X.K ρ x P N E)
def SXs (X : Cx) (E : XK) (ρ : Env) (sts : List Stmt) (x : XV) (P N : Env → Prop) : Prop := PSs X sts (tSX X.K ρ x P N E)
section
variable {K : PySem.W.Frag} {fr : Fr} {ρ : Env} {σ : L2.St} {S H : Hp} {ad : List Addr}
theorem Rel.callX {RX : XSpec} {ns : List Nat} {os os' : List OD} {xs ys : List VD} {vs : List V} {xx : XV} {Q : VK} {E : XK} (A : Rel K fr ρ σ S H ad) (hv : RvAll K S ad vs xs) (ht : TrAll ns xs ys) (hl : Lend ρ.ow ns os) (hr : RX ys os xx os') (hos : os'.length = os.length)
    (k : ∀ S' H' cls dd, Step S ad S' ad → Rel K fr { ρ with ow := setAll ρ.ow ns os' } σ S' H' ad → IsX K S' H' cls dd xx → E cls dd H') : spX K RX vs H Q E := by
  let M : List Addr := ns.map fun n => (ad[n]?).getD 0
  have adAt : ∀ (i n : Nat), ns[i]? = some n → ∃ l, ad[n]? = some l ∧ M[i]? = some l := fun i n e => by
    obtain ⟨o, h1, _⟩ := hl.at_ i n e
    obtain ⟨l, ho, e1, _⟩ := A.own n o h1
    refine ⟨l, e1, ?_⟩
    show (ns.map fun n => (ad[n]?).getD 0)[i]? = some l
    rw [List.getElem?_map, e]
    simp [e1]
  have hM : ∀ (i n : Nat), ns[i]? = some n → M[i]? = ad[n]? := fun i n e => by
    obtain ⟨l, e1, e2⟩ := adAt i n e
    rw [e1, e2]
  have lenM : M.length = ns.length := by show (ns.map _).length = _; simp
  have ofM : ∀ a, a ∈ M → ∃ i n : Nat, ns[i]? = some n ∧ ad[n]? = some a := fun a ha => by
    obtain ⟨i, hi⟩ := List.getElem?_of_mem ha
    have hlt := (List.getElem?_eq_some_iff.mp hi).1
    rw [lenM] at hlt
    have e : ns[i]? = some ns[i] := by simp [hlt]
    refine ⟨i, ns[i], e, ?_⟩
    rw [← hM i _ e]; exact hi
  have ndM : M.Nodup := by
    refine List.pairwise_iff_getElem.mpr fun i j hi hj hij heq => ?_
    rw [lenM] at hi hj
    have ei : ns[i]? = some ns[i] := by simp [hi]
    have ej : ns[j]? = some ns[j] := by simp [hj]
    obtain ⟨l, a1, a2⟩ := adAt i _ ei
    obtain ⟨l', b1, b2⟩ := adAt j _ ej
    have a3 := (List.getElem?_eq_some_iff.mp a2).2
    have b3 := (List.getElem?_eq_some_iff.mp b2).2
    have hll : l = l' := by rw [← a3, ← b3]; exact heq
    subst hll
    have h2 := nodup_ixA A.nd a1 b1
    have := (List.getElem_inj hl.nd (h₀ := hi) (h₁ := hj)).mp h2
    omega
  refine ⟨S, M, ys, os, xx, os', A.grow.sh, trAll_ok hM ht hv, ⟨lenM.trans hl.len, fun i o e => ?_⟩, ndM, hr, fun o ho => ?_, fun S' H' cls dd g ix oa => ?_⟩
  · have hlt := (List.getElem?_eq_some_iff.mp e).1
    rw [← hl.len] at hlt
    have en : ns[i]? = some ns[i] := by simp [hlt]
    obtain ⟨o', h1, h2, h3⟩ := hl.at_ i _ en
    rw [e] at h2; cases h2
    obtain ⟨l, ho, e1, e2, e3, e4, _⟩ := A.own _ o h1
    exact ⟨l, ho, (hM i _ en).trans e1, e2, e3, e4.free h3⟩
  · obtain ⟨i, hi⟩ := List.getElem?_of_mem ho
    have hlt := (List.getElem?_eq_some_iff.mp hi).1
    rw [← hl.len] at hlt
    obtain ⟨o', h1, h2, h3⟩ := hl.at_ i ns[i] (by simp [hlt])
    rw [hi] at h2; cases h2
    exact h3
  · have hst : Step S ad S' ad := ⟨g.s, [], by simp⟩
    have keepH : ∀ a o, H a = some o → a ∉ M → H' a = some o := g.h
    have live : ∀ a, H a ≠ none → H' a ≠ none := fun a ha => by
      by_cases hm : a ∈ M
      · obtain ⟨i, hi⟩ := List.getElem?_of_mem hm
        have hlt := (List.getElem?_eq_some_iff.mp hi).1
        rw [oa.len] at hlt
        obtain ⟨l, ho, e1, _, e3, _⟩ := oa.at_ i os'[i] (by simp [hlt])
        rw [hi] at e1; cases e1
        rw [e3]; simp
      · cases q : H a with
        | none => exact absurd q ha
        | some u => rw [keepH a u q hm]; simp
    refine k S' H' cls dd hst ⟨⟨A.grow.s.trans g.s, g.sh, fun a o e hm => ?_, fun a h1 h2 h3 => ?_⟩, fun i x e => ?_, fun n o e => ?_, A.mm, A.nd, A.len, by rw [A.al]; exact (setAll_length _ _ _).symm, fun n hn => ?_, fun l hl' => live l (A.lv l hl')⟩ ix
    · refine keepH a o (A.grow.h a o e hm) fun ha => ?_
      obtain ⟨i, n, e1, e2⟩ := ofM a ha
      obtain ⟨u, h1, _⟩ := hl.at_ i n e1
      by_cases hnm : ρ.m ≤ n
      · obtain ⟨l, ho, f1, f2, f3, f4, f5⟩ := A.own n u h1
        rw [e2] at f1; cases f1
        rw [f5 hnm] at e; cases e
      · exact hm (A.inM e2 (by omega))
    · exact g.n a (A.grow.n a h1 h2 h3) (A.old h2) (A.ntup h2 h3)
    · obtain ⟨w, e1, e2⟩ := A.slots i x e
      exact ⟨w, e1, e2.mono hst⟩
    · by_cases hn : n ∈ ns
      · obtain ⟨i, hi⟩ := List.getElem?_of_mem hn
        have hlt := (List.getElem?_eq_some_iff.mp hi).1
        obtain ⟨u, h1, h2, h3⟩ := hl.at_ i n hi
        have hlt2 := (List.getElem?_eq_some_iff.mp h1).1
        have hio : i < os'.length := by rw [hos, ← hl.len]; exact hlt
        have e' := setAll_in (ow := ρ.ow) (os := os') hl.nd hi (show os'[i]? = some os'[i] by simp [hio]) hlt2
        have eo : (some (some o) : Option (Option OD)) = some (some os'[i]) := e.symm.trans e'
        cases eo
        obtain ⟨l, ho, f1, f2, f3, f4⟩ := oa.at_ i os'[i] (by simp [hio])
        obtain ⟨l0, ho0, g1, g2, g3, g4, g5⟩ := A.own n u h1
        rw [hM i n hi, g1] at f1; cases f1
        have f4' : OR K S' ad l ho os'[i] := by
          cases ho <;> cases q : os'[i] <;> rw [q] at f4 <;> first | exact f4.elim | exact f4 | skip
          obtain ⟨h0, vs', h1', h2', h3'⟩ := f4
          refine ⟨h0, vs', h1', h2', ?_⟩
          clear h1' h2' q
          induction h3' with
          | nil => exact .nil
          | cons r t ih => 
            refine .cons ?_ ih
            cases r with
            | d r => exact .d r
            | loc z => simp at z
        exact ⟨_, ho, g1, f2, f3, f4', g5⟩
      · have e' : ρ.ow[n]? = some (some o) := by rw [← setAll_out hn]; exact e
        obtain ⟨l, ho, e1, e2, e3, e4, e5⟩ := A.own n o e'
        have hlm : l ∉ M := fun z => by
          obtain ⟨i, n', f1, f2⟩ := ofM l z
          have := nodup_ixA A.nd e1 f2
          subst this
          exact hn (List.mem_of_getElem? f1)
        exact ⟨l, ho, e1, g.n l e2 (by rw [e3]; simp) (fun xs z => by rw [e3] at z; cases z; exact e4.ntup), keepH l ho e3 hlm, e4.mono hst, e5⟩
    · obtain ⟨o, e⟩ := A.ml n hn
      by_cases hns : n ∈ ns
      · obtain ⟨i, hi⟩ := List.getElem?_of_mem hns
        have hlt := (List.getElem?_eq_some_iff.mp hi).1
        have hio : i < os'.length := by rw [hos, ← hl.len]; exact hlt
        exact ⟨_, setAll_in hl.nd hi (show os'[i]? = some os'[i] by simp [hio]) (List.getElem?_eq_some_iff.mp e).1⟩
      · exact ⟨o, by show (setAll ρ.ow ns os')[n]? = _; rw [setAll_out hns]; exact e⟩
end
section
variable {X : Cx} {E : XK} {ρ ρ' ρ0 ρ1 ρ2 ρ3 : Env} {e a b c tg iter elt : Expr} {es rest ifs : List Expr} {v y z : VD} {xs ys : List VD} {pos apos cpos pp : Pos} {p q : Bool} {st : Stmt} {r body orelse : List Stmt} {k : Kn} {ds ds' : List D} {u u' d d' w : D} {n m : Str} {R : FSpec} {x : XV} {P N : Env → Prop}
theorem ps_of_one {t : TS} (h : PSs X [st] t) : PS X st t := by
  refine ⟨fun pins s σ H Dn I hq => ?_⟩
  have h1 := h.run pins s σ H Dn I hq
  intro Γ p0 hΓ
  have h2 := h1 Γ p0 hΓ
  rw [execs_cons] at h2
  rw [Sem.wp_bind'] at h2
  refine Sem.wp_mono _ _ _ (fun f p1 s1 hf => ?_) (fun _ _ _ z => z) _ _ h2
  cases f with
  | next => exact hf
  | ret u => exact hf
  | brk => exact hf
  | cont => exact hf
/-- a statement that ends in ρ1 -/
theorem sx_step (ρ1 : Env) (h : SDs X ρ [st] { nx := fun ρ' => ρ' = ρ1, rt := fun _ _ => False }) (hr : SXs X E ρ1 r x P N) : SXs X E ρ (st :: r) x P N := by
  refine ⟨fun pins s σ H Dn I ⟨fr, S, ad, A, kk, kn⟩ => ?_⟩
  refine (pss_cons (ps_of_one h) hr).run pins s σ H Dn I ?_
  refine ⟨fr, S, ad, A, ⟨fun ρ' σ' S' H' ad' e A' => ?_, fun _ _ _ _ _ _ _ z => z.elim, fun _ _ _ _ _ z => z.elim, fun _ _ _ _ _ z => z.elim, fun _ _ _ _ _ _ _ z => z.elim⟩⟩
  subst e
  exact ⟨fr, S', ad', A', kk, kn⟩
/-- the rest is never reached -/
theorem sx_end (h : SX X E ρ st x P (fun _ => False)) : SXs X E ρ (st :: r) x P N := by
  refine ⟨fun pins s σ H Dn I ⟨fr, S, ad, A, kk, kn⟩ => (pss_cons h pss_never).run pins s σ H Dn I ?_⟩
  exact ⟨fr, S, ad, A, kk, fun _ _ _ _ _ z => z.elim⟩
theorem sx_nil (h : N ρ) : SXs X E ρ [] x P N := ⟨fun pins s σ H Dn I ⟨fr, S, ad, A, kk, kn⟩ => pss_nil.run pins s σ H Dn I (kn ρ σ S H ad h A)⟩
theorem sx_eq (h : SXs X E ρ1 r x P N) (e : ρ = ρ1) : SXs X E ρ r x P N := e ▸ h
theorem sx_any {B : Env → Prop} (h : ∀ ρ, B ρ → SXs X E ρ r x P N) : PSs X r (fun Dn σ H => ∃ ρ, B ρ ∧ tSX X.K ρ x P N E Dn σ H) := ⟨fun pins s σ H Dn I ⟨ρ, hb, hq⟩ => (h ρ hb).run pins s σ H Dn I hq⟩
theorem sx_if (hc : TD X ρ c p ρ1) (ha : p = true → SXs X E ρ1 body x P (fun ρ' => SXs X E ρ' r x P N)) (hb : p = false → SXs X E ρ1 orelse x P (fun ρ' => SXs X E ρ' r x P N)) : SXs X E ρ (.If c body orelse pos :: r) x P N := by
  refine ⟨fun pins s σ H Dn I ⟨fr, S, ad, A, kk, kn⟩ => ?_⟩
  refine (pss_cons (ps_if hc (sx_any (B := fun ρ' => p = true ∧ ρ' = ρ1) fun ρ' h => by rw [h.2]; exact ha h.1) (sx_any (B := fun ρ' => p = false ∧ ρ' = ρ1) fun ρ' h => by rw [h.2]; exact hb h.1)) (sx_any (B := fun ρ' => SXs X E ρ' r x P N) fun _ h => h)).run pins s σ H Dn I ?_
  refine ⟨fr, S, ad, A, fun S1 H1 ad1 st A1 => ?_⟩
  have fin : ∀ ρ' σ' S' H' ad', SXs X E ρ' r x P N → Rel X.K fr ρ' σ' S' H' ad' → ∃ ρ, SXs X E ρ r x P N ∧ tSX X.K ρ x P N E Dn σ' H' := fun ρ' σ' S' H' ad' h A' => ⟨ρ', h, fr, S', ad', A', kk, kn⟩
  cases p with
  | true => exact iteT ⟨ρ1, ⟨rfl, rfl⟩, fr, S1, ad1, A1, kk, fin⟩
  | false => exact iteF ⟨ρ1, ⟨rfl, rfl⟩, fr, S1, ad1, A1, kk, fin⟩
/-! statements whose expression raises -/
theorem sx_ret (he : EX X E ρ e x ρ1) (hp : P ρ1) : SXs X E ρ (.Return (some e) pos :: r) x P N :=
  sx_end ⟨fun pins s σ H Dn I ⟨fr, S, ad, A, kk, kn⟩ => (ps_ret he).run pins s σ H Dn I ⟨fr, S, ad, A, fun S' H' ad' cls d st A' ix => kk ρ1 σ S' H' ad' cls d hp A' ix⟩⟩
/-! expressions with a part that raises -/
theorem ex_of {t : TE} (h : PE X e t) (q : ∀ σ H Q, tEX X.K ρ x ρ' E σ H Q → t σ H Q) : EX X E ρ e x ρ' := ⟨fun pins s σ H Q I hq => h.run pins s σ H Q I (q σ H Q hq)⟩
theorem ax_of {t : TA} (h : PA X es t) (q : ∀ σ H Q, tAX X.K ρ x ρ' E σ H Q → t σ H Q) : AX X E ρ es x ρ' := ⟨fun pos pins s σ H Q I hq => h.run pos pins s σ H Q I (q σ H Q hq)⟩
theorem ax_here (ha : EX X E ρ a x ρ1) (hs : starEach (a :: es) X.env = (false, eval a X.env) :: starEach es X.env := by rfl) : AX X E ρ (a :: es) x ρ1 := by
  have hr : PA X es (fun _ _ _ => False) := ⟨fun _ _ _ _ _ _ _ h => h.elim⟩
  exact ax_of (pa_cons ha hr hs) fun σ H Q h => h
/-! calls -/
theorem pe_callRX {k : Nat} {f : Addr} {x : Str} {sp : Sp} {t : TA} {p pos : Pos} (tk : Lets X E) (F : FnR X.prog X.w X.K X.mg X.base (L2.CX X.prog X.w) k f sp) (hr : Room k X.A) (hg : Gl X x) (hm : X.mg x = some (.ref f)) (hk : PySem.W.keepIn X.K (.ref f) = true)
    (ha : PA X (e :: es) t) (hdb : (x == ("__debug__" : Str)) = false) (he : starEach (e :: es) X.env = (false, eval e X.env) :: starEach es X.env) (hpl : (backTo pos (starEach es X.env)).any (·.1) = false) :
    PE X (.Call (.Name x p) (e :: es) [] pos) (fun σ H Q => t σ H fun vs H1 => sp vs H1 Q E) := by
  refine ⟨fun pins s σ H Q I h => ?_⟩
  refine wpAny_Call_Name_kw (ld_glob I hg hm ?_ hdb)
  refine PySem.W.callWith_K (h₀ := X.base) I.ok.mod.kin hk (thn (ha.run pos pins s σ H _ I h) fun us s1 ⟨vs, H1, I1, r, q⟩ => ⟨I1.kIn, ?_⟩) he hpl
  exact wpAny_call (run_fnR (E := E) F hr (passes_call tk fun _ _ _ _ h => h) I1 r q)
/-- a def of the module that raises -/
structure XGs (P : Program) (w : World) (K : PySem.W.Frag) (mg : Str → Option Value) (base : Heap) (A : Around) (x : Str) (R : XSpec) : Prop where
  ex : ∃ f j, FnR P w K mg base (L2.CX P w) j f (spX K R) ∧ Room j A ∧ mg x = some (.ref f) ∧ PySem.W.keepIn K (.ref f) = true
abbrev XG (X : Cx) : Str → XSpec → Prop := XGs X.prog X.w X.K X.mg X.base X.A
structure XMs (P : Program) (w : World) (K : PySem.W.Frag) (mg : Str → Option Value) (base : Heap) (A : Around) (C : Addr) (m : Str) (R : XSpec) : Prop where
  cl : Cls K C
  ex : ∃ f j, FnR P w K mg base (L2.CX P w) j f (spX K R) ∧ Room j A ∧ Meth K C m f
variable {RX : XSpec}
theorem ex_callL {ns : List Nat} {os os' : List OD} (tk : Lets X E) (C : XG X n RX) (ha : AD X ρ (e :: es) xs ρ1) (ht : TrAll ns xs ys) (hl : Lend ρ1.ow ns os) (hR : RX ys os x os') (hos : os'.length = os.length) (hg : Gl X n) (hdb : (n == ("__debug__" : Str)) = false := by decide)
    (he : starEach (e :: es) X.env = (false, eval e X.env) :: starEach es X.env := by rfl) (hpl : (backTo pos (starEach es X.env)).any (·.1) = false := by rfl) :
    EX X E ρ (.Call (.Name n pp) (e :: es) [] pos) x { ρ1 with ow := setAll ρ1.ow ns os' } := by
  obtain ⟨f, j, F, hr, hm, hk⟩ := C.ex
  refine ex_of (pe_callRX tk F hr hg hm hk ha hdb he hpl) fun σ H Q ⟨fr, S, ad, A, kk⟩ => ⟨fr, S, ad, A, fun S1 H1 ad1 vs st1 A1 r1 => ?_⟩
  exact A1.callX r1 ht hl hR hos fun S' H' cls dd st' A' ix => kk S' H' ad1 cls dd (st1.trans st') A' ix
theorem ex_call (tk : Lets X E) (C : XG X n RX) (ha : AD X ρ (e :: es) xs ρ1) (hd : AllD xs ds) (hR : RX xs [] x []) (hg : Gl X n) (hdb : (n == ("__debug__" : Str)) = false := by decide)
    (he : starEach (e :: es) X.env = (false, eval e X.env) :: starEach es X.env := by rfl) (hpl : (backTo pos (starEach es X.env)).any (·.1) = false := by rfl) :
    EX X E ρ (.Call (.Name n pp) (e :: es) [] pos) x ρ1 := ex_callL (ns := []) (os' := []) tk C ha hd.tr Lend.nil hR rfl hg hdb he hpl
/-- an argument raises -/
theorem ex_args {f : Addr} (ha : AX X E ρ (e :: es) x ρ1) (hm : X.mg n = some (.ref f)) (hk : PySem.W.keepIn X.K (.ref f) = true) (hg : Gl X n) (hdb : (n == ("__debug__" : Str)) = false := by decide)
    (he : starEach (e :: es) X.env = (false, eval e X.env) :: starEach es X.env := by rfl) (hpl : (backTo pos (starEach es X.env)).any (·.1) = false := by rfl) :
    EX X E ρ (.Call (.Name n pp) (e :: es) [] pos) x ρ1 := by
  refine ⟨fun pins s σ H Q I h => ?_⟩
  refine wpAny_Call_Name_kw (ld_glob I hg hm ?_ hdb)
  refine PySem.W.callWith_K (h₀ := X.base) I.ok.mod.kin hk (thn (ha.run pos pins s σ H (fun _ _ => False) I h) fun us s1 ⟨vs, H1, I1, r, q⟩ => q.elim) he hpl
end
end DL

namespace DL
open PySem PySem.Spec PyProof.Rows L2 LamX
/-! ### closures -/
/-- the function object that a lambda lays at f -/
def LamO (f : Addr) (q : Str) (ps : Arguments) (b : Expr) (sc : Scope) (cl : List (Str × Addr)) (dV doc pm : Value) (cc : Addr) (ct : Value) : HO :=
  .ext fun h => h.get? f = some (PySem.W.kdv_obj "<lambda>" q ps (.expr b) sc cl dV doc pm cc ct)
/-- the defaults: none, or a tuple that stands -/
def DfV (S : Hp) (dV : Value) (ws : List V) : Prop := (ws = [] ∧ dV = .none) ∨ (ws ≠ [] ∧ ∃ T, dV = .ref T ∧ S T = some (.tup ws))
def LamAt (q : Str) (ps : Arguments) (b : Expr) (sc : Scope) (cl : List (Str × Addr)) (ws : List V) (S : Hp) (f : Addr) : Prop :=
  ∃ dV doc pm cc ct, S f = some (LamO f q ps b sc cl dV doc pm cc ct) ∧ S cc = some (CodeO cc q) ∧ DfV S dV ws
theorem LamAt.mono {S S' : Hp} {q : Str} {ps : Arguments} {b : Expr} {sc : Scope} {cl : List (Str × Addr)} {ws : List V} {f : Addr} (e : Ex S S') (h : LamAt q ps b sc cl ws S f) : LamAt q ps b sc cl ws S' f := by
  obtain ⟨dV, doc, pm, cc, ct, h1, h2, h3⟩ := h
  refine ⟨dV, doc, pm, cc, ct, e _ _ h1, e _ _ h2, ?_⟩
  rcases h3 with h3 | ⟨h3, T, h4, h5⟩
  · exact .inl h3
  · exact .inr ⟨h3, T, h4, e _ _ h5⟩
/-- of the lambda of the text in the frame of X -/
abbrev lamP (X : Cx) (ps : Arguments) (b : Expr) (sc : Scope) (ws : List V) : Hp → Addr → Prop := LamAt (X.env.qual ++ "<lambda>") ps b sc (cloFrom X.env.cells sc.names []) ws
theorem upd_comm {H : Hp} {a b : Addr} {o u : HO} (h : a ≠ b) : upd (upd H a o) b u = upd (upd H b u) a o := by
  funext x
  by_cases h1 : x = a
  · subst h1; rw [upd_ne h, upd_same, upd_same]
  · by_cases h2 : x = b
    · subst h2; rw [upd_same, upd_ne h1, upd_same]
    · rw [upd_ne h2, upd_ne h1, upd_ne h1, upd_ne h2]
section
variable {X : Cx} {ρ : Env} {fr : Fr} {σ : L2.St} {S H : Hp} {ad : List Addr} {pins : List (Addr × Obj)} {s : Shared} {n : Nat} {P c : Addr} {q : Str}
/-- the closure itself is laid -/
theorem lam_lay {h' : Heap} {tk : Nat} {ps : Arguments} {b : Expr} {sc : Scope} {cl : List (Str × Addr)} {dV doc pm ct : Value} {cc : Addr} {ws : List V} (A : Rel X.K fr ρ σ S H ad) (I : Inv X pins σ H { s with heap := h', toks := tk })
    (hc : S cc = some (CodeO cc q)) (hd : DfV S dV ws) {Q : Value → Shared → Prop}
    (h : ∀ S1 H1 s1 f, Inv X pins σ H1 s1 → Step S ad S1 ad → Rel X.K fr ρ σ S1 H1 ad → LamAt q ps b sc cl ws S1 f → Q (.ref f) s1) :
    Q (.ref h'.objs.size) { s with heap := h'.push (PySem.W.kdv_obj "<lambda>" q ps (.expr b) sc cl dV doc pm cc ct), toks := tk } := by
  have nF : H h'.objs.size = none := I.hok.fresh (Nat.le_refl _)
  have at_ : (h'.push (PySem.W.kdv_obj "<lambda>" q ps (.expr b) sc cl dV doc pm cc ct)).get? h'.objs.size = some (PySem.W.kdv_obj "<lambda>" q ps (.expr b) sc cl dV doc pm cc ct) := Heap.get?_push_size _ rfl
  have I1 : Inv X pins σ (upd H h'.objs.size (LamO h'.objs.size q ps b sc cl dV doc pm cc ct)) { s with heap := h'.push (PySem.W.kdv_obj "<lambda>" q ps (.expr b) sc cl dV doc pm cc ct), toks := tk } :=
    I.laid (t' := tk) (fun _ _ e => Heap.get?_push_of_some _ e) (Nat.le_refl _) ⟨at_, ⟨_, at_⟩, fun _ _ z st => st _ z⟩
  obtain ⟨A1, st⟩ := A.newS (o := LamO h'.objs.size q ps b sc cl dV doc pm cc ct) nF
  refine h _ _ _ _ I1 st A1 ⟨dV, doc, pm, cc, ct, upd_same, st.s _ _ hc, ?_⟩
  rcases hd with hd | ⟨h1, T, h2, h3⟩
  · exact .inl hd
  · exact .inr ⟨h1, T, h2, st.s _ _ h3⟩
/-- the code object is new, or it stands in the table -/
theorem lam_tail {ps : Arguments} {b : Expr} {sc : Scope} {pos : Pos} {l0 : Nat} {dV : Value} {ws : List V} {Q : Value → Shared → Prop} {E : Value → Shared → Prop} (A : Rel X.K fr ρ σ S H ad) (I : Inv X pins σ H s) (hn : ρ.ow[n]? = some (some (.tb P q)))
    (TB : TabB X.base X.mg c P) (hcode : X.env.code = .ref c) (hfree : ∀ y ∈ sc.names, y.2 = .free → ∃ z, X.env.cells.lookup y.1 = some z) (hd : DfV S dV ws)
    (h : ∀ S1 H1 s1 f, Inv X pins σ H1 s1 → Step S ad S1 ad → Rel X.K fr ρ σ S1 H1 ad → LamAt q ps b sc (cloFrom X.env.cells sc.names []) ws S1 f → Q (.ref f) s1) :
    wpAny (model X.prog X.w) X.A (makeTail "<lambda>" q ps (.expr b) sc X.env dV .none none pos l0) Q E s := by
  obtain ⟨l, ho, e1, e2, e3, e4, e5⟩ := A.own n _ hn
  cases ho <;> first | exact e4.elim | skip
  rename_i tv
  obtain ⟨rfl, ht, ha⟩ := e4
  have bl : s.heap.BuiltinsAt X.mg l := TB.bm.keeps I.bk
  have hl : s.heap.get? l = some { cls := .none, data := .fields tv } := I.hok l _ e3
  cases hc : codeAmong pos tv.toList with
  | some cv =>
    obtain ⟨cc, rfl, hS⟩ := ha pos cv hc
    refine PySem.W.kdv_makeTailHit (mg := X.mg) (c := c) (P := l) (ps := tv) (closure_ok hfree) I.ok.glob (I.mod.glob.keeps I.bk) hcode (TB.code.keeps I.bk) hl ht hc bl fun ct doc h' tk hx hsz => ?_
    exact lam_lay A (I.kept (t' := tk) hx) hS hd h
  | none =>
    refine PySem.W.kdv_makeTail (mg := X.mg) (c := c) (P := l) (ps := tv) (closure_ok hfree) I.ok.glob (I.mod.glob.keeps I.bk) hcode (TB.code.keeps I.bk) hl ht hc TB.gP bl fun cc ct doc h' tk hx hge hlt hrec htb => ?_
    obtain ⟨cc', oc, vs, t, ec, hoc, hdc, hvc⟩ := hrec
    cases ec
    have nC : H cc = none := I.hok.fresh hge
    have ne : cc ≠ l := fun z => by rw [z, e3] at nC; cases nC
    have I1 := inv_table (q := q) (t' := tk) (more := #[rawInt pos.line, rawInt pos.col, .ref cc]) (h' := h') I e3 hx htb hge ⟨oc, vs, t, hoc, hdc, hvc⟩
    obtain ⟨A1, st1⟩ := A.newS (p := cc) (o := CodeO cc q) nC
    have tl : (tv ++ #[rawInt pos.line, rawInt pos.col, .ref cc]).toList = tv.toList ++ [rawInt pos.line, rawInt pos.col, .ref cc] := by simp
    have tb : TbOk (upd S cc (CodeO cc q)) (tv ++ #[rawInt pos.line, rawInt pos.col, .ref cc]) q := by
      refine ⟨by rw [tl]; exact PySem.TriplesOk_snoc _ _ _ _ ht, fun p' cv z => ?_⟩
      rw [tl] at z
      rcases among_app _ ht z with z | z
      · obtain ⟨c0, f1, f2⟩ := ha p' cv z
        exact ⟨c0, f1, st1.s _ _ f2⟩
      · exact ⟨cc, z, upd_same⟩
    have A2 := A1.setO (n := n) (o' := .tb l q) (ho := .tbl (tv ++ #[rawInt pos.line, rawInt pos.col, .ref cc])) hn e1 ⟨rfl, tb⟩
    have ew : ρ.ow.set n (some (.tb l q)) = ρ.ow := by
      obtain ⟨h1, h2⟩ := List.getElem?_eq_some_iff.mp hn
      rw [← h2, List.set_getElem_self]
    rw [ew, upd_comm ne] at A2
    have hd' : DfV (upd S cc (CodeO cc q)) dV ws := by
      rcases hd with hd | ⟨h1, T, h2, h3⟩
      · exact .inl hd
      · exact .inr ⟨h1, T, h2, st1.s _ _ h3⟩
    exact lam_lay A2 I1 upd_same hd' fun S1 H1 s1 f J st A3 la => h S1 H1 s1 f J (st1.trans st) A3 la
end
section
variable {X : Cx} {ρ : Env} {n i : Nat} {P c : Addr} {ps : Arguments} {b : Expr} {sc : Scope} {pos dp : Pos} {j : Nat} {d0 : Int}
theorem Rp.lamI {K : PySem.W.Frag} {S : Hp} {q : Str} {cl : List (Str × Addr)} {ws : List V} {f : Addr} (h : LamAt q ps b sc cl ws S f) : Rp K S (.ref f) (.lam i (LamAt q ps b sc cl ws)) := .lam i fun _ e => h.mono e
/-- lambda: b -/
theorem ed_lam0 (hn : ρ.ow[n]? = some (some (.tb P (X.env.qual ++ "<lambda>")))) (TB : TabB X.base X.mg c P) (hcode : X.env.code = .ref c) (hfree : X.Ok → ∀ y ∈ sc.names, y.2 = .free → ∃ z, X.env.cells.lookup y.1 = some z) (hdef : defaultsOf ps X.env = ([], [])) :
    ED X ρ (.Lambda ps b sc pos) (.d (.lam i (lamP X ps b sc []))) ρ := by
  refine ⟨fun pins s σ H Q I ⟨fr, S, ad, A, k⟩ => ?_⟩
  refine PySem.W.kla_eval hdef ?_
  rw [makeFunction_eq]
  simp only [List.zip_nil_right, List.filterMap_nil, List.isEmpty_nil, if_true, pure_bind]
  refine lam_tail A I hn TB hcode (hfree I.ok) (.inl ⟨rfl, rfl⟩) fun S1 H1 s1 f J st A1 la => ?_
  exact ⟨.ref f, H1, J, rfl, k S1 H1 ad _ st A1 (.d (.lamI la))⟩
/-- lambda a=d0: b -/
theorem ed_lam1 (hn : ρ.ow[n]? = some (some (.tb P (X.env.qual ++ "<lambda>")))) (TB : TabB X.base X.mg c P) (hcode : X.env.code = .ref c) (hfree : X.Ok → ∀ y ∈ sc.names, y.2 = .free → ∃ z, X.env.cells.lookup y.1 = some z)
    (hd : ps.defaults = [.Constant (.int d0) j dp]) (hk : ps.kw_defaults = []) :
    ED X ρ (.Lambda ps b sc pos) (.d (.lam i (lamP X ps b sc [.int d0]))) ρ := by
  refine ⟨fun pins s σ H Q I ⟨fr, S, ad, A, k⟩ => ?_⟩
  refine PySem.W.kdv_lam (by rw [hd]; rfl) hk ?_
  rw [hd]
  refine PySem.W.kdv_all1 (thn ((pe_int (X := X) (i := d0) (j := j) (pos := dp)).run pins s σ H (fun v H1 => v = .int d0 ∧ H1 = H) I ⟨rfl, rfl⟩) fun u s1 hu => ?_)
  obtain ⟨v, H1, I1, rv, ev, eH⟩ := hu
  subst ev eH
  refine PySem.W.kdv_all0 ?_
  rw [makeFunction_eq]
  simp only [List.zip_nil_right, List.filterMap_nil, List.isEmpty_nil, List.isEmpty_cons, if_true, if_false, pure_bind, Bool.false_eq_true]
  refine wpAny_bind (wpAny_newTextTuple ?_)
  have nT : H1 s1.heap.objs.size = none := I1.hok.fresh (Nat.le_refl _)
  have I2 : Inv X pins σ (upd H1 s1.heap.objs.size (.tup [.int d0])) { s1 with heap := s1.heap.push { cls := .type "tuple", data := .seq [u].toArray } } :=
    I1.laid (t' := s1.toks) (fun _ _ e => Heap.get?_push_of_some _ e) (Nat.le_refl _) ⟨Nat.le_trans (by show 1 ≤ 2; omega) (show 2 ≤ sizeLine by decide), [u], .cons rv .nil, ⟨_, Heap.get?_push_size _ rfl, rfl, _, rfl⟩⟩
  obtain ⟨A1, st1⟩ := A.newS (p := s1.heap.objs.size) (o := .tup [.int d0]) nT
  refine lam_tail A1 I2 hn TB hcode (hfree I.ok) (.inr ⟨by simp, _, rfl, upd_same⟩) fun S1 H2 s2 f J st A2 la => ?_
  exact ⟨.ref f, H2, J, rfl, k S1 H2 ad _ (st1.trans st) A2 (.d (.lamI la))⟩
end
end DL

namespace DL
open PySem PySem.Spec PyProof.Rows L2 LamX
/-! ### a closure is called -/
/-- a lambda's names: captured ones, globals, parameters that the maker has no name for -/
structure LamS3 (N : List Str) (sc scope : Scope) : Prop where
  kind : scope.kind = .function
  co : scope.isCoroutine = false
  gen : scope.isGenerator = false
  cell : ∀ y ∈ scope.names, y.2 ≠ .cell
  loc : ∀ y ∈ scope.names, y.2 = .local → y.1 ∉ N
  free : ∀ y ∈ scope.names, y.2 = .free → sc.names.lookup y.1 = some .cell ∨ sc.names.lookup y.1 = some .free
def lamB3 (N : List Str) (sc scope : Scope) : Bool :=
  decide (scope.kind = .function) && (!scope.isCoroutine && (!scope.isGenerator && (scope.names.all (fun y => decide (y.2 ≠ .cell)) && (scope.names.all (fun y => decide (y.2 ≠ .local) || !N.contains y.1) && scope.names.all (fun y => decide (y.2 ≠ .free) || (decide (sc.names.lookup y.1 = some .cell) || decide (sc.names.lookup y.1 = some .free)))))))
theorem lamS3_by {N : List Str} {sc scope : Scope} (h : lamB3 N sc scope = true) : LamS3 N sc scope := by
  unfold lamB3 at h
  simp only [Bool.and_eq_true, Bool.or_eq_true, Bool.not_eq_true', decide_eq_true_eq, List.all_eq_true] at h
  obtain ⟨h1, h2, h3, h4, h5, h6⟩ := h
  refine ⟨h1, h2, h3, h4, fun y hy e => ?_, fun y hy e => ?_⟩
  · rcases h5 y hy with z | z
    · exact absurd e z
    · intro hm
      rw [List.contains_iff_mem.mpr hm] at z; cases z
  · rcases h6 y hy with z | z
    · exact absurd e z
    · exact z
theorem LamS3.has {X : Cx} {scope : Scope} (L : LamS3 X.N X.env.scope scope) (ok : X.Ok) : ∀ y ∈ scope.names, y.2 = .free → ∃ c, X.env.cells.lookup y.1 = some c := fun y hy e => ok.has _ (L.free y hy e)
section
variable {X : Cx} {pins : List (Addr × Obj)} {σ : L2.St} {H HZ : Hp} {s s1 : Shared} {A : Around} {outer : List PySem.Env} {E : XK} {scope : Scope} {f cc : Addr} {h1 : Heap} {tk : Nat} {m : Str → Option Value}
/-- what the closure's list of cells tells -/
theorem clo_look (L : LamS3 X.N X.env.scope scope) (ok : X.Ok) {y : Str} {c : Addr} (e : (cloFrom X.env.cells scope.names []).lookup y = some c) : X.env.cells.lookup y = some c := by
  rcases cloFrom_mem (PySem.mem_of_lookup e) with hm | ⟨hy, hc⟩
  · cases hm
  · obtain ⟨c1, h1⟩ := L.has ok _ hy rfl
    have h1 : X.env.cells.lookup y = some c1 := h1
    rw [hc, h1]; rfl
theorem clo_get (L : LamS3 X.N X.env.scope scope) (ok : X.Ok) {y : Str} (e : scope.names.lookup y = some .free) : ∃ c, (cloFrom X.env.cells scope.names []).lookup y = some c ∧ X.env.cells.lookup y = some c := by
  obtain ⟨c, h⟩ := mem_lookup (cloFrom_has (cells := X.env.cells) (acc := []) (PySem.mem_of_lookup e))
  exact ⟨c, h, clo_look L ok h⟩
/-- the closure's frame stands: the slots are the maker's -/
theorem lam_in (I : Inv X pins σ H s) (L : LamS3 X.N X.env.scope scope) (e0 : Env0 X.prog X.w X.K X.mg X.base A outer s1 HZ) (hd : A.handled = none) {ex : List Addr} (un : Un (frs X.stack) ex H HZ s.heap s1.heap) (hex : ∀ y c, X.env.cells.lookup y = some c → c ∉ ex)
    (hns : h1.Ns s1.heap.objs.size m) (kp : ∀ b o, s1.heap.get? b = some o → h1.get? b = some o) : Inv (lamCx X A outer s1 HZ E scope f cc) [] σ HZ { s1 with heap := h1, toks := tk } := by
  have cellK : ∀ {y : Str} {c : Addr} {v : Option Value}, X.env.cells.lookup y = some c → s.heap.IsCell c v → h1.IsCell c v := fun {y c v} e ⟨o, ho, hdat⟩ => by
    obtain ⟨sl, q⟩ := un.any ho (I.freeC y c e) (hex y c e)
    exact ⟨_, kp _ _ q, hdat⟩
  have nex : ∀ b : Addr, ¬ b ∈ (lamCx X A outer s1 HZ E scope f cc).ex := fun b z => by
    have z : b ∈ ([] : List Addr) := z
    cases z
  have ok : (lamCx X A outer s1 HZ E scope f cc).Ok := {
    mod := e0.mod
    kind := L.kind
    glob := rfl
    blt := rfl
    above := Nat.le_refl _
    inj := fun y z c h1 h2 => I.ok.inj y z c (clo_look L I.ok h1) (clo_look L I.ok h2)
    has := fun y hy => by
      have hy : scope.names.lookup y = some .cell ∨ scope.names.lookup y = some .free := hy
      rcases hy with hy | hy
      · exact absurd rfl (L.cell _ (PySem.mem_of_lookup hy))
      · obtain ⟨c, h, _⟩ := clo_get L I.ok hy
        exact ⟨c, h⟩
    cab := fun y c z _ => by
      have z : false = true := z
      cases z
    hd := fun _ => hd
    frames := Around.frames_deeper e0.frames
    stk := .inr ⟨rfl, rfl⟩
    exf := fun b z => absurd z (nex b)
    bs := e0.bs
    bsz := e0.bsz
    noex := fun b _ _ => nex b
    exfs := fun b z => absurd z (nex b)
    funs := e0.funs
    frf := e0.frf }
  refine { ok := ok, os := rfl, bare := e0.bare, base := Un.kept kp, loc := ⟨m, hns, fun i y v e1 e2 e3 => ?_⟩, cell := fun y c e => ?_, free := e0.hok.fresh (Nat.le_refl _), freeC := fun y c e => ?_, pin := fun p hp => ?_, hok := e0.hok.kept kp, len := I.len }
  · have e1 : X.N[i]? = some y := e1
    have e3 : scope.names.lookup y = some .local ∨ scope.names.lookup y = some .cell ∨ scope.names.lookup y = some .free := e3
    rcases e3 with k | k | k
    · exact absurd (List.mem_of_getElem? e1) (L.loc _ (PySem.mem_of_lookup k) rfl)
    · exact absurd rfl (L.cell _ (PySem.mem_of_lookup k))
    · obtain ⟨m0, _, hl⟩ := I.loc
      have hk := L.free _ (PySem.mem_of_lookup k) rfl
      obtain ⟨u, r, q⟩ := hl i y v e1 e2 (.inr hk)
      obtain ⟨c, hc, hc'⟩ := clo_get L I.ok k
      refine ⟨u, r, .inr ⟨.inr k, c, hc, ?_⟩⟩
      rcases q with ⟨kl, _⟩ | ⟨_, c', e', z⟩
      · have kl : X.env.scope.names.lookup y = some .local := kl
        rcases hk with hk | hk <;> (have hk : X.env.scope.names.lookup y = _ := hk; rw [hk] at kl; cases kl)
      · rw [hc'] at e'; cases e'
        exact cellK hc' z
  · have e := clo_look L I.ok e
    obtain ⟨v, z⟩ := I.cell y c e
    exact ⟨v, cellK e z⟩
  · have e := clo_look L I.ok e
    obtain ⟨v, o, ho, _⟩ := I.cell y c e
    exact un.free c o ho (I.freeC y c e) (hex y c e)
  · have hp : p ∈ ([] : List (Addr × Obj)) ++ [] := hp
    simp at hp
theorem lam_lets : Lets (lamCx X A outer s1 HZ E scope f cc) E := takes_of rfl rfl rfl rfl
end
/-! ### how a lambda binds nothing, or its default -/
/-- the lambda's parameters take no argument -/
inductive LamB (ps : Arguments) (b : Expr) (sc : Scope) : List V → Prop
  | none : (∀ (q : Str) (cl : List (Str × Addr)) (doc pm cdv ct : Value), bindArgs (PySem.W.kdv_fn "<lambda>" q ps (.expr b) sc cl .none doc pm cdv ct) ⟨[], []⟩ = pure []) → LamB ps b sc []
  | one {a : Str} {w : V} : (∀ (q : Str) (cl : List (Str × Addr)) (T : Addr) (doc pm cdv ct : Value), ∃ k : Option (Array Value) → Sem (List (Str × Value)), bindArgs (PySem.W.kdv_fn "<lambda>" q ps (.expr b) sc cl (.ref T) doc pm cdv ct) ⟨[], []⟩ = seqItems? (.ref T) >>= k ∧
      ∀ u, k (some #[u]) = pure [(a, u)]) → sc.names.lookup a = some .local → LamB ps b sc [w]
/-- the call, in the frame of a def that was called by X's frame at s -/
structure Below (X Z : Cx) (H : Hp) (s : Shared) : Prop where
  prog : Z.prog = X.prog
  w : Z.w = X.w
  K : Z.K = X.K
  mg : Z.mg = X.mg
  bas : Z.base = X.base
  un : ∀ {pins : List (Addr × Obj)} {σ : L2.St} {H' : Hp} {s' : Shared}, Inv Z pins σ H' s' → ∃ ex, Un (frs X.stack) ex H H' s.heap s'.heap ∧ ∀ y c, X.env.cells.lookup y = some c → c ∉ ex
section
variable {X Z : Cx} {pins pinsZ : List (Addr × Obj)} {σ σZ : L2.St} {H HZ : Hp} {s sZ : Shared} {scope : Scope} {f : Addr} {ps : Arguments} {b : Expr} {ws : List V} {E : XK} {W : WX} {k : Nat} {tb : TE} {Q : VK}
theorem act_ok (I : Inv X pins σ H s) (L : LamS3 X.N X.env.scope scope) (hB : LamB ps b scope ws) (bl : Below X Z H s) (IZ : Inv Z pinsZ σZ HZ sZ) (hl : lamP X ps b scope ws HZ f) (tk : Takes Z W) (hW : ∀ cls d H', E cls d H' → W cls d σZ H') (hr : Room (k + 1) Z.A)
    (hbody : ∀ (A : Around) (outer : List PySem.Env) (s : Shared) (H : Hp) (f c' : Addr), Room k (A.deeper (lamEnv X scope s.heap.objs.size f c')) → PE (lamCx X A outer s H E scope f c') b tb) (ht : tb σ HZ Q) :
    wpAny (model Z.prog Z.w) Z.A (call (.ref f) []) (EP Z pinsZ σZ Q) Z.xe sZ := by
  obtain ⟨dV, doc, pm, cc, ct, hf, hc, hd⟩ := hl
  have of1 : sZ.heap.get? f = some (PySem.W.kdv_obj "<lambda>" (X.env.qual ++ "<lambda>") ps (.expr b) scope (cloFrom X.env.cells scope.names []) dV doc pm cc ct) := (IZ.hok f _ hf).1
  obtain ⟨⟨oc, vs, t, hoc, hdc, hvc⟩, _, _⟩ := IZ.hok cc _ hc
  have e0 : Env0 X.prog X.w X.K X.mg X.base Z.A Z.stack sZ HZ := by
    have := IZ.env0
    rw [bl.prog, bl.w, bl.K, bl.mg, bl.bas] at this
    exact this
  have rc : codeAny (model Z.prog Z.w) Z.A (.call (.ref f) ⟨[], []⟩) (CR (L2.CX Z.prog Z.w) Z.stack Z.prog Z.w HZ sZ Q E) sZ := by
    rw [bl.prog, bl.w]
    refine PySem.W.kla_callFunE hr.depth of1 rfl L.co L.gen rfl ⟨cc, oc, vs, t, rfl, hoc, hdc, hvc⟩ ?_
    have go : ∀ binds : List (Str × Value), (∀ y ∈ binds, scope.names.lookup y.1 = some .local) → wpAny (model X.prog X.w) Z.A.in1 (newFunctionEnv scope mainGlobals (cloFrom X.env.cells scope.names []) binds (X.env.qual ++ "<lambda>" ++ ".<locals>.") (some f) (.ref cc) none builtinsNs)
        (fun env s2 => s2.heap.NoLimit ∧ codeAny (model X.prog X.w) Z.A (.expr b env) (CR (L2.CX X.prog X.w) Z.stack X.prog X.w HZ sZ Q E) s2) (fun e s' => CR (L2.CX X.prog X.w) Z.stack X.prog X.w HZ sZ Q E (.error e) s') sZ := fun binds hb => by
      refine wpAny_newFunctionEnv (fun y hy => L.cell y hy) hb (fun h1 hns hsb => ⟨IZ.nolimit.fresh _ hsb, ?_⟩) L.kind
      show codeAny _ _ (.expr b (lamEnv X scope sZ.heap.objs.size f cc)) _ _
      have kp : ∀ a o, sZ.heap.get? a = some o → h1.get? a = some o := fun a o e => hsb.extBut a o (Nat.ne_of_lt (Heap.lt_size e)) (Heap.get?_push_of_some _ e)
      have J : Inv (lamCx X Z.A Z.stack sZ HZ E scope f cc) [] σ HZ { sZ with heap := h1, toks := sZ.toks + binds.length } := by
        obtain ⟨ex, u1, u2⟩ := bl.un IZ
        exact lam_in I L e0 hr.hd u1 u2 hns kp
      refine PySem.W.kla_codeExpr (wpAny_mono ((hbody _ _ sZ HZ f cc (hr.deeper _)).run [] _ _ HZ Q J ht) (fun v s' hq => ?_) fun e s' hq => hq)
      obtain ⟨w', H', J', rv, q⟩ := hq
      exact ⟨w', H', J'.os, J'.bare, J'.base, J'.hok, rv, q⟩
    cases hB with
    | none hb =>
      rcases hd with ⟨_, rfl⟩ | ⟨z, _⟩
      · rw [show bindArgs (PySem.W.kdv_fn "<lambda>" (X.env.qual ++ "<lambda>") ps (.expr b) scope (cloFrom X.env.cells scope.names []) .none doc pm (.ref cc) ct) ⟨[], []⟩ = pure [] from hb _ _ _ _ _ _]
        exact wpAny_pure (go [] (by simp))
      · exact absurd rfl z
    | one hb hloc =>
      rcases hd with ⟨z, _⟩ | ⟨_, T, rfl, hT⟩
      · cases z
      · obtain ⟨kk, h1, h2⟩ := hb (X.env.qual ++ "<lambda>") (cloFrom X.env.cells scope.names []) T doc pm (.ref cc) ct
        obtain ⟨_, its, rv, oT, hoT, _, nT, hdT⟩ := IZ.hok T _ hT
        cases rv with
        | cons r0 r1 =>
          cases r1
          exact BindsTo.of_defaults (s := sZ) (fd := PySem.W.kdv_fn "<lambda>" (X.env.qual ++ "<lambda>") ps (.expr b) scope (cloFrom X.env.cells scope.names []) (.ref T) doc pm (.ref cc) ct) rfl hoT hdT h1 (h2 _) _ _ _ _ (go _ (by simpa using hloc))
  refine wpAny_call (codeAny_mono rc fun r s' hq => ?_)
  cases r with
  | error e => exact tk e s' (XE.of_call IZ hW hq)
  | ok fl =>
    cases fl with
    | ret u => exact IZ.after hq
    | next => exact hq.elim
    | brk => exact hq.elim
    | cont => exact hq.elim
end
end DL

namespace DL
open PySem PySem.Spec PyProof.Rows L2 LamX
/-! ### a def that calls the closure that it got, and tells what came -/
/-- a call that changed nothing of ours -/
theorem Rel.after {K : PySem.W.Frag} {fr : Fr} {ρ : Env} {σ : L2.St} {S H S' H' : Hp} {ad : List Addr} (A : Rel K fr ρ σ S H ad) (g : Grow [] S H S' H') : Rel K fr ρ σ S' H' ad ∧ Step S ad S' ad := by
  have st : Step S ad S' ad := ⟨g.s, [], by simp⟩
  have kp : ∀ a o, H a = some o → H' a = some o := fun a o e => g.h a o e (by simp)
  refine ⟨⟨⟨A.grow.s.trans g.s, g.sh, fun a o e hm => kp a o (A.grow.h a o e hm), fun a h1 h2 h3 => g.n a (A.grow.n a h1 h2 h3) (A.old h2) (A.ntup h2 h3)⟩, fun i x e => ?_, fun n o e => ?_, A.mm, A.nd, A.len, A.al, A.ml, fun l hl => ?_⟩, st⟩
  · obtain ⟨v, e1, e2⟩ := A.slots i x e
    exact ⟨v, e1, e2.mono st⟩
  · obtain ⟨l, ho, e1, e2, e3, e4, e5⟩ := A.own n o e
    exact ⟨l, ho, e1, g.n l e2 (by rw [e3]; simp) (fun xs z => by rw [e3] at z; cases z; exact e4.ntup), kp l ho e3, e4.mono st, e5⟩
  · cases q : H l with
    | none => exact absurd q (A.lv l hl)
    | some u => rw [kp l u q]; simp
/-- what an except clause knows of its exception -/
def exP (K : PySem.W.Frag) (cls : Value) (d : Option Addr) (x : XV) (a : Addr) : Hp → Addr → Prop := fun S b => b = a ∧ IsX K S S cls d x
theorem IsX.mono {K : PySem.W.Frag} {S S' H H' : Hp} {cls : Value} {d : Option Addr} {x : XV} (e : Ex S S') (h : IsX K S H cls d x) : IsX K S' H' cls d x := by
  obtain ⟨h1, h2⟩ := h
  refine ⟨h1, ?_⟩
  rcases h2 with h2 | ⟨dx, vs, a, b, c, r⟩
  · exact .inl h2
  · exact .inr ⟨dx, vs, a, b, e _ _ c, r.mono e⟩
section
variable {X : Cx} {ρ ρ1 ρ2 : Env} {e b : Expr} {r v : VD} {i : Nat} {φ : Hp → Addr → Prop} {x a en xc : Str} {g : Addr} {k : Nat} {pg : Arguments} {bg : List Stmt} {sg scope : Scope} {fd : FuncData} {Ng : List Str} {p pos : Pos} {ps : Arguments} {ws : List V} {c : Value} {xx : XV}
/-- the def, as its caller knows it -/
structure TellD (X : Cx) (x a : Str) (g : Addr) (pg : Arguments) (bg : List Stmt) (sg : Scope) (Ng : List Str) : Prop where
  gl : Gl X x
  mg : X.mg x = some (.ref g)
  fn : ∃ fd, FunD X.K x x pg bg sg [] [] g fd
  bi : ∀ (kV doc pm : Value) (an : Option Addr) (cdv ct : Value) (us : List Value), us.length = 1 → bindArgs (PySem.W.fnOf x x pg bg sg .none kV doc pm an cdv ct) ⟨us, []⟩ = pure ([a].zip us)
  sc : FnScope Ng [a] sg
  db : (x == ("__debug__" : Str)) = false
abbrev tellCx (X : Cx) (x : Str) (g : Addr) (sg : Scope) (Ng : List Str) (cdv : Value) (s : Shared) (H : Hp) : Cx := cxOf CX0 X.prog X.w X.K X.mg X.base Ng x sg g cdv X.A X.stack s H E0
theorem tell_core (T : TellD X x a g pg bg sg Ng) (hr : Room (k + 1) X.A) (he : ED X ρ e (.d (.lam i φ)) ρ1)
    (hG : ∀ (cdv : Value) (pins : List (Addr × Obj)) (s : Shared) (σ : L2.St) (H : Hp) (fr : Fr) (S : Hp) (ad : List Addr) (f : Addr) (Q : VK), Inv X pins σ H s → Rel X.K fr ρ1 σ S H ad → (∀ S', Ex S S' → φ S' f) → Room k (X.A.deeper (envOfC x sg s.heap.objs.size g cdv)) →
      (∀ S' H' ad' v, Step S ad S' ad' → Rel X.K fr ρ2 σ S' H' ad' → Rv X.K S' ad' v r → Q v H') → ∃ t, PSs (tellCx X x g sg Ng cdv s H).nox bg t ∧ t { nx := fun _ H' => Q .non H', rt := Q } (start Ng [.ref f]) H)
    (hst : starEach [e] X.env = (false, eval e X.env) :: starEach [] X.env := by rfl) : ED X ρ (.Call (.Name x p) [e] [] pos) r ρ2 := by
  obtain ⟨fd, F⟩ := T.fn
  have bA := FunD.bindsA (ps := [a]) F T.bi
  obtain ⟨oc, od, dV, kV, doc, pm, an, cdv, ct, osl, rfl, lk, hcd, _, _⟩ := F.ex
  refine ⟨fun pins s σ H Q I ⟨fr, S, ad, A, kk⟩ => ?_⟩
  refine wpAny_Call_Name_kw (ld_glob I T.gl T.mg ?_ T.db)
  have ha : PA X [e] (tA X.K ρ [.d (.lam i φ)] ρ1) := ad_cons he ad_nil hst
  refine PySem.W.callWith_K (h₀ := X.base) I.ok.mod.kin F.kp (thn (ha.run pos pins s σ H (fun vs H1 => ∃ f S1 ad1, vs = [.ref f] ∧ Step S ad S1 ad1 ∧ Rel X.K fr ρ1 σ S1 H1 ad1 ∧ ∀ S', Ex S1 S' → φ S' f) I ⟨fr, S, ad, A, fun S1 H1 ad1 vs st1 A1 r1 => ?_⟩) fun us s1 ⟨vs, H1, I1, rv, f, S1, ad1, ev, st1, A1, hφ⟩ => ⟨I1.kIn, ?_⟩) hst rfl
  · cases r1 with
    | cons r0 rr =>
      cases rr
      cases r0 with
      | d r0 =>
        cases r0 with
        | lam _ hφ => exact ⟨_, S1, ad1, rfl, st1, A1, hφ⟩
  · subst ev
    have rc : codeAny (model X.prog X.w) X.A (.call (.ref g) ⟨us, []⟩) (CR CX0 X.stack X.prog X.w H1 s1 Q E0) s1 := by
      refine run_ofS (N := Ng) (ps := [a]) (us := us) (vs := [.ref f]) lk hcd T.sc hr I1.env0 (bA s1 us (by have := rv.length; simpa using this.symm)) rv rfl fun hr' => ?_
      obtain ⟨t, ht, hq⟩ := hG cdv pins s1 σ H1 fr S1 ad1 f Q I1 A1 hφ hr' (fun S' H' ad' v st A' rv' => kk S' H' ad' v (st1.trans st) A' rv')
      exact ⟨t, ht.nox, hq⟩
    refine wpAny_call (codeAny_mono rc fun r s2 hq => ?_)
    cases r with
    | error e => exact (show False from hq).elim
    | ok fl =>
      cases fl with
      | ret u => exact I1.after hq
      | next => exact False.elim hq
      | brk => exact False.elim hq
      | cont => exact False.elim hq
end
end DL

namespace DL
open PySem PySem.Spec PyProof.Rows L2 LamX
section
variable {X Z : Cx} {ρ ρ1 ρ2 : Env} {e b : Expr} {r v : VD} {i j je : Nat} {x a en xc : Str} {g : Addr} {k : Nat} {pg : Arguments} {sg scope : Scope} {Ng : List Str} {ps : Arguments} {ws : List V} {c : Value} {xx : XV} {W : WX}
  {pins : List (Addr × Obj)} {σ : L2.St} {H : Hp} {s : Shared} {tb : XK → TE} {p1 p2 p3 p4 p5 p6 p7 np hp tp p pos : Pos} {b0 : Stmt} {suite : List Stmt} {doc : Str} {j0 j1 : Nat} {rd : D}
/-- a(): the closure at the name a -/
theorem pe_actD (I : Inv X pins σ H s) (L : LamS3 X.N X.env.scope scope) (hB : LamB ps b scope ws) (bl : Below X Z H s) (tk : Takes Z W) (hr : Room (k + 1) Z.A)
    (hbody : ∀ (E : XK) (A : Around) (outer : List PySem.Env) (s : Shared) (H : Hp) (f c' : Addr), Room k (A.deeper (lamEnv X scope s.heap.objs.size f c')) → PE (lamCx X A outer s H E scope f c') b (tb E))
    (hN : Z.N[j]? = some a) (hv : Vis Z.env.scope a) (hd : (a == ("__debug__" : Str)) = false) (hcd : (a == ("__classdict__" : Str)) = false) :
    PE Z (.Call (.Name a p1) [] [] p2) (fun σZ HZ Q => ∃ f E, σZ[j]? = some (some (.ref f)) ∧ lamP X ps b scope ws HZ f ∧ (∀ cls d H', E cls d H' → W cls d σZ H') ∧ tb E σ HZ Q) := by
  refine ⟨fun pinsZ sZ σZ HZ Q IZ ⟨f, E, hs, hl, hW, ht⟩ => ?_⟩
  refine wpAny_Call_Name_kw (thn ((pe_var (pos := p1) (i := j) hN hv hd hcd).run pinsZ sZ σZ HZ (fun v H1 => v = .ref f ∧ H1 = HZ) IZ ⟨.ref f, hs, rfl, rfl⟩) fun u s1 ⟨v, H1, I1, r1, q1⟩ => ?_)
  obtain ⟨ev, eH⟩ := q1
  subst ev eH
  obtain rfl : u = Value.ref f := r1
  have at_ : ∃ dV doc pm cc ct, s1.heap.get? f = some (PySem.W.kdv_obj "<lambda>" (X.env.qual ++ "<lambda>") ps (.expr b) scope (cloFrom X.env.cells scope.names []) dV doc pm cc ct) := by
    obtain ⟨dV, doc, pm, cc, ct, hf, _, _⟩ := hl
    exact ⟨dV, doc, pm, cc, ct, (I1.hok f _ hf).1⟩
  obtain ⟨_, _, _, _, _, of1⟩ := at_
  refine PySem.W.callWith_F0 ⟨_, _, _, _, of1⟩ ?_
  exact act_ok I L hB bl I1 hl tk hW hr (fun A outer s H f c' hr2 => hbody E A outer s H f c' hr2) ht
/-- the names of such a def -/
structure TryD (X : Cx) (a en xc : Str) (je : Nat) (sg : Scope) (Ng : List Str) (c : Value) : Prop where
  nd : Ng.Nodup
  ia : Ng[0]? = some a
  va : Vis sg a
  ie : Ng[je]? = some en
  le : sg.names.lookup en = some .local
  gx : sg.names.lookup xc = some .globalImplicit
  mx : X.mg xc = some c
  d1 : (a == ("__debug__" : Str)) = false
  d2 : (a == ("__classdict__" : Str)) = false
  d3 : (xc == ("__debug__" : Str)) = false
theorem start0 {Ng : List Str} {f : Addr} : (start Ng [V.ref f])[0]? = some (some (V.ref f)) := by simp [L2.start]
theorem below_tell {cdv : Value} {pn : List (Addr × Obj)} {xe : Value → Shared → Prop} : Below X (((tellCx X x g sg Ng cdv s H).nox).tr pn xe) H s := ⟨rfl, rfl, rfl, rfl, rfl, fun IZ => ⟨[], IZ.base, by simp⟩⟩
/-- the state of the suite -/
def env1 (Ng : List Str) (je : Nat) (K : PySem.W.Frag) (cls : Value) (d : Option Addr) (x : XV) (a : Addr) : Env := ⟨0, (List.replicate Ng.length none).set je (some (.d (.lam 0 (exP K cls d x a)))), []⟩
/-- what the suite must reach -/
def kn1 (r : D) : Kn := { nx := fun _ => False, rt := fun d _ => d = r }
/-- the suite, read behind the closure's exception -/
theorem suite_read {fr : Fr} {S H : Hp} {ad : List Addr} {cls : Value} {d : Option Addr} {ae : Addr} {σZ : L2.St} {D : Ends} {Q : VK} (A : Rel X.K fr ρ2 σ S H ad) (ix : IsX X.K S H cls d xx) (hl : σZ.length = Ng.length) (hje : je < Ng.length) (hD : D.rt = Q)
    (hq : ∀ S' H' ad' v, Step S ad S' ad' → Rel X.K fr ρ2 σ S' H' ad' → Rv X.K S' ad' v (.d rd) → Q v H') : tS X.K (env1 Ng je X.K cls d xx ae) (kn1 rd) D (σZ.set je (some (.ref ae))) H := by
  refine ⟨⟨[], S, H⟩, S, [], ⟨⟨.refl _, A.grow.sh, fun a o e _ => e, fun a e _ _ => e⟩, fun i w e => ?_, fun n o e => ?_, ⟨rfl, rfl⟩, .nil, ?_, rfl, fun n hn => ?_, fun l hl => ?_⟩, ⟨fun _ _ _ _ _ z => z.elim, fun dd ρ' σ' S' H' ad' v hk A' rp => ?_, fun _ _ _ _ _ z => z.elim, fun _ _ _ _ _ z => z.elim, fun _ _ _ _ _ _ _ z => z.elim⟩⟩
  · have e : ((List.replicate Ng.length none).set je (some (VD.d (.lam 0 (exP X.K cls d xx ae)))))[i]? = some (some w) := e
    by_cases h : je = i
    · subst h
      rw [List.getElem?_set_self (by rw [List.length_replicate]; exact hje)] at e
      cases e
      refine ⟨.ref ae, List.getElem?_set_self (by rw [hl]; exact hje), .d (.lam 0 fun S' eS => ⟨rfl, ix.mono eS⟩)⟩
    · rw [List.getElem?_set_ne h] at e
      have := List.getElem?_eq_some_iff.mp e
      obtain ⟨h1, h2⟩ := this
      rw [List.getElem_replicate] at h2
      cases h2
  · have e : ([] : List (Option OD))[n]? = some (some o) := e
    simp at e
  · show ((List.replicate Ng.length none).set je _).length = (σZ.set je _).length
    rw [List.length_set, List.length_set, List.length_replicate, hl]
  · exact absurd hn (Nat.not_lt_zero _)
  · cases hl
  · have hk : dd = rd := hk
    subst hk
    obtain ⟨A2, st⟩ := A.after A'.grow
    rw [hD]
    exact hq S' H' ad v st A2 (.d rp)
/-- try: return a() / except xc as en: ..: the closure ends -/
theorem told_N (T : TellD X x a g pg [.Try [.Return (some (.Call (.Name a p1) [] [] p2)) p5] [.ExceptHandler (some (.Name xc np)) (some en) (b0 :: suite) hp] [] [] tp] sg Ng) (Y : TryD X a en xc je sg Ng c)
    (hr : Room (k + 2) X.A) (he : ED X ρ e (.d (.lam i (lamP X ps b scope ws))) ρ1) (L : LamS3 X.N X.env.scope scope) (hB : LamB ps b scope ws)
    (hbody : ∀ (E : XK) (A : Around) (outer : List PySem.Env) (s : Shared) (H : Hp) (f c' : Addr), Room k (A.deeper (lamEnv X scope s.heap.objs.size f c')) → ED (lamCx X A outer s H E scope f c') ρ1 b v ρ2)
    (hst : starEach [e] X.env = (false, eval e X.env) :: starEach [] X.env := by rfl) : ED X ρ (.Call (.Name x p) [e] [] pos) v ρ2 := by
  refine tell_core (k := k + 1) T hr he (fun cdv pins s σ H fr S ad f Q I A hφ hr' hq => ?_) hst
  refine ⟨_, pss_one (ps_try_as (X := (tellCx X x g sg Ng cdv s H).nox) (i := je) (tb := fun W D σZ HZ => ∃ (f : Addr) (E : XK), σZ[0]? = some (some (.ref f)) ∧ lamP X ps b scope ws HZ f ∧ (∀ cls d H', E cls d H' → W cls d σZ H') ∧ tE X.K ρ1 v ρ2 σ HZ D.rt)
    (ts := fun _ _ _ _ _ _ => False) rfl rfl Y.nd Y.ie Y.le ⟨Y.gx, Y.d3, .inl Y.mx⟩ L2.takes0 (fun W pn xe tk _ => pss_one (ps_ret (pe_actD (j := 0) (tb := fun _ => tE X.K ρ1 v ρ2) I L hB below_tell tk hr' hbody Y.ia Y.va Y.d1 Y.d2)))
    (fun _ _ _ _ _ _ _ => pss_never)), ?_⟩
  exact ⟨f, fun _ _ _ => False, start0, hφ H A.grow.sh, fun _ _ _ z => z.elim, fr, S, ad, A, hq⟩
/-- .. the closure raises -/
theorem told_X (T : TellD X x a g pg [.Try [.Return (some (.Call (.Name a p1) [] [] p2)) p5] [.ExceptHandler (some (.Name xc np)) (some en) (b0 :: suite) hp] [] [] tp] sg Ng) (Y : TryD X a en xc je sg Ng c)
    (hr : Room (k + 2) X.A) (he : ED X ρ e (.d (.lam i (lamP X ps b scope ws))) ρ1) (L : LamS3 X.N X.env.scope scope) (hB : LamB ps b scope ws) (hex : PySem.W.exmOne X.K (.ref xx.cls) c = some true)
    (hbody : ∀ (E : XK) (A : Around) (outer : List PySem.Env) (s : Shared) (H : Hp) (f c' : Addr), Room k (A.deeper (lamEnv X scope s.heap.objs.size f c')) → EX (lamCx X A outer s H E scope f c') E ρ1 b xx ρ2)
    (hsu : ∀ (cdv : Value) (s : Shared) (H : Hp) (ae : Addr) (oe : Obj) (d : Option Addr) (pn : List (Addr × Obj)), Room (k + 1) (X.A.deeper (envOfC x sg s.heap.objs.size g cdv)) → Zc (.ref xx.cls) d oe → (∃ vs, oe.data = .fields vs) → SDs ((tellCx X x g sg Ng cdv s H).nox.suite ae ((ae, oe) :: pn)) (env1 Ng je X.K (.ref xx.cls) d xx ae) (b0 :: suite) (kn1 rd))
    (hst : starEach [e] X.env = (false, eval e X.env) :: starEach [] X.env := by rfl) : ED X ρ (.Call (.Name x p) [e] [] pos) (.d rd) ρ2 := by
  have hje : je < Ng.length := (List.getElem?_eq_some_iff.mp Y.ie).1
  refine tell_core (k := k + 1) T hr he (fun cdv pins s σ H fr S ad f Q I A hφ hr' hq => ?_) hst
  refine ⟨_, pss_one (ps_try_as (X := (tellCx X x g sg Ng cdv s H).nox) (i := je) (tb := fun W D σZ HZ => ∃ (f : Addr) (E : XK), σZ[0]? = some (some (.ref f)) ∧ lamP X ps b scope ws HZ f ∧ (∀ cls d H', E cls d H' → W cls d σZ H') ∧ tEX X.K ρ1 xx ρ2 E σ HZ D.rt)
    (ts := fun ae cls d D σZ HZ => cls = .ref xx.cls ∧ tS X.K (env1 Ng je X.K (.ref xx.cls) d xx ae) (kn1 rd) D σZ HZ) rfl rfl Y.nd Y.ie Y.le ⟨Y.gx, Y.d3, .inl Y.mx⟩ L2.takes0 (fun W pn xe tk _ => pss_one (ps_ret (pe_actD (j := 0) (tb := fun E => tEX X.K ρ1 xx ρ2 E) I L hB below_tell tk hr' hbody Y.ia Y.va Y.d1 Y.d2)))
    (fun ae oe cls d pn hz hv => ⟨fun pins s' σ' H' D I' ⟨ec, h'⟩ => by subst ec; exact (hsu cdv s H ae oe d pn hr' hz hv).run pins s' σ' H' D I' h'⟩)), ?_⟩
  refine ⟨f, _, start0, hφ H A.grow.sh, fun _ _ _ z => z, fr, S, ad, A, fun S' H' ad' cls d st A' ix => ?_⟩
  refine ⟨true, by rw [ix.1]; exact hex, fun _ ae _ => ⟨ix.1, ?_⟩, fun z => by cases z⟩
  have ec := ix.1
  subst ec
  exact suite_read (D := { nx := _, rt := _, bk := _, ct := _ }) A' ix (by simp [L2.start]; omega) hje rfl fun S2 H2 ad2 w st2 A2 rw' => hq S2 H2 ad2 w (st.trans st2) A2 rw'
end
end DL

namespace DL
open PySem PySem.Spec PyProof.Rows L2 LamX
/-! ### data with truth values: count, index -/
mutual
def D.okB : D → Bool
  | .non => true
  | .bl _ => true
  | .int _ => true
  | .str x => PyData.strOk x
  | .lst ds => okBAll ds
  | .tup ds => okBAll ds
  | _ => false
def okBAll : List D → Bool
  | [] => true
  | d :: ds => d.okB && okBAll ds
end
mutual
theorem py_layB : ∀ d : D, d.okB = true → d.py.canLay0 = true
  | .non, _ => rfl
  | .bl b, _ => rfl
  | .int i, _ => rfl
  | .str x, h => by simp only [D.okB] at h; simp only [D.py, PyData.canLay0, h]
  | .byt x, h => by simp [D.okB] at h
  | .lst ds, h => by simp only [D.okB] at h; simp only [D.py, PyData.canLay0, pyAll_layB ds h]
  | .tup ds, h => by simp only [D.okB] at h; simp only [D.py, PyData.canLay0, pyAll_layB ds h]
  | .ins _ _ _, h => by simp [D.okB] at h
  | .dic _ _, h => by simp [D.okB] at h
  | .dit _ _, h => by simp [D.okB] at h
  | .ktp _, h => by simp [D.okB] at h
  | .lam _ _, h => by simp [D.okB] at h
  | .ref _, h => by simp [D.okB] at h
  | .ty _, h => by simp [D.okB] at h
theorem pyAll_layB : ∀ ds : List D, okBAll ds = true → PyData.canLayAll0 (pyAll ds) = true
  | [], _ => rfl
  | d :: ds, h => by
    simp only [okBAll, Bool.and_eq_true] at h
    simp only [pyAll, PyData.canLayAll0, py_layB d h.1, pyAll_layB ds h.2, Bool.and_self]
end
theorem py_shapedB {d : D} (h : d.okB = true) (hd : d.dep ≤ 64) : SeqAt.shaped d.py = true := by
  unfold SeqAt.shaped
  have := py_dep d
  rw [py_layB d h, Bool.true_and]
  exact decide_eq_true (by omega)
mutual
theorem Rp.dpB {K : PySem.W.Frag} {S H : Hp} (e : Ex S H) : ∀ (d : D) {v : V}, d.okB = true → Rp K S v d → Dp K H v d.py
  | .non, _, _, h => by cases h; exact .non
  | .bl b, _, _, h => by cases h; exact .bl b
  | .int i, _, _, h => by cases h; exact .int i
  | .str x, _, _, h => by cases h; exact .str x
  | .lst ds, _, o, h => by
    simp only [D.okB] at o
    cases h with
    | lst q r => exact .lst (ex_l e q) (RpAll.dpB e ds o r)
  | .tup ds, _, o, h => by
    simp only [D.okB] at o
    cases h with
    | tup q r => exact .tup (ex_t e (SqT.of q)) (RpAll.dpB e ds o r)
theorem RpAll.dpB {K : PySem.W.Frag} {S H : Hp} (e : Ex S H) : ∀ (ds : List D) {vs : List V}, okBAll ds = true → RpAll K S vs ds → DpAll K H vs (pyAll ds)
  | [], _, _, h => by cases h; exact .nil
  | d :: ds, _, o, h => by
    simp only [okBAll, Bool.and_eq_true] at o
    cases h with
    | cons a b => exact .cons (Rp.dpB e d o.1 a) (RpAll.dpB e ds o.2 b)
end
section
variable {X : Cx} {ρ ρ1 ρ2 : Env} {a b : Expr} {d d' w : D} {pos apos cpos : Pos}
def rCountD (K : PySem.W.Frag) : V → List V → Hp → VK → Prop := fun x xs H Q => ∃ (l : Addr) (y : V) (d : PyData) (ds : List PyData), x = V.ref l ∧ xs = [y] ∧ Dp K H (V.ref l) (.list ds) ∧ Dp K H y d ∧ SeqAt.shaped (.list ds) = true ∧ SeqAt.shaped d = true ∧
  Q (.int ((ds.countP fun z => PyData.eqv z d : Nat) : Int)) H
/-- l.count(x) -/
theorem mt_countD (hu : X.A.units + 65 < cLine) : MtR X "list.count" (rCountD X.K) := by
  intro pins s σ H x xs v us Q I rx rxs h
  obtain ⟨l, y, d, ds, rfl, rfl, hl, hy, sl, sd, q⟩ := h
  cases rx
  cases rxs with
  | cons ry rt =>
    cases rt
    obtain ⟨bs, r1⟩ := Dp.reads I d y _ hy ry
    have hxs : PyData.canLayAll0 ds = true := SeqAt.canLay_of_shaped sl
    cases hl with
    | lst hs ha =>
      obtain ⟨its, rv, ⟨⟨c0, dd, dat, sl0⟩, n, ho, hc, _, hdt⟩, _⟩ := I.list hs
      simp only at hc hdt
      subst hc hdt
      obtain ⟨as, h4⟩ := Dp.readsAll I ds _ its ha rv
      have hmap : its.map (SeqAt.readOf s.heap) = ds := SeqAt.readsAll_map ds its as hxs h4
      refine call_meets PySem.F.slot_list_count ⟨_, ho, rfl⟩ PySem.F.entry_list_count (PySem.F.args_list_count_2 _ _)
        (SeqAt.list_countAt l its.toArray n dd sl0 _ (fun u => PyData.eqv (SeqAt.readOf s.heap u) d)) ⟨ho, SeqAt.items_eqAt (vs := its.toArray) (show ReadsAll s.heap its.toArray.toList ds as from h4) r1 hxs (SeqAt.canLay_of_shaped sd) (room_in_shaped sd hu), ?_⟩
      have e : its.toArray.toList.countP (fun u => PyData.eqv (SeqAt.readOf s.heap u) d) = ds.countP fun z => PyData.eqv z d := by
        rw [← hmap, List.countP_map]; rfl
      rw [e]
      exact ⟨.int _, H, I.tok _, ⟨_, rfl⟩, q⟩
/-- both are data of moderate depth -/
def dBoth (d d' : D) : Bool := d.okB && (d'.okB && (decide (d.dep ≤ 64) && decide (d'.dep ≤ 64)))
theorem dBoth_ok (h : dBoth d d' = true) : d.okB = true ∧ d'.okB = true ∧ d.dep ≤ 64 ∧ d'.dep ≤ 64 := by
  unfold dBoth at h
  simp only [Bool.and_eq_true, decide_eq_true_eq] at h
  exact h
def dCountD : D → D → Option D
  | .lst ds, d => if dBoth (.lst ds) d = true then some (.int (((pyAll ds).countP fun z => PyData.eqv z d.py : Nat) : Int)) else none
  | _, _ => none
def dIndexD : D → D → Option D
  | .lst ds, d => if dBoth (.lst ds) d = true then ((pyAll ds).findIdx? fun z => PyData.eqv z d.py).bind fun j => some (.int (j : Nat)) else none
  | _, _ => none
theorem ed_countM (hu : X.A.units + 65 < cLine) (ha : ED X ρ a (.d d) ρ1) (hb : ED X ρ1 b (.d d') ρ2) (h : dCountD d d' = some w)
    (hbase : attributeBase a "count" X.env (eval a X.env) = eval a X.env)
    (hfew : ((backTo cpos (starEach [b] X.env)).all (fun x => !x.1) && (backToKw cpos (keywordEach [] X.env)).all (fun x => x.1.isSome)
      && decide ([b].length + ([] : List Keyword).length + (if ([] : List Keyword).isEmpty then 0 else 1) < 30)) = true)
    (hline : (apos.endLine == cpos.line) = true) (hs : starEach [b] X.env = (false, eval b X.env) :: starEach [] X.env) (hplain : (backTo cpos (starEach [] X.env)).any (·.1) = false) :
    ED X ρ (.Call (.Attribute a "count" apos) [b] [] cpos) (.d w) ρ2 := by
  unfold dCountD at h
  split at h
  · rename_i ds
    split at h
    · rename_i hb'
      cases h
      obtain ⟨o1, o2, s1, s2⟩ := dBoth_ok hb'
      refine ed_of (pe_bm PySem.F.plainAttrs_list PySem.F.slot_list_count PySem.F.type_list_count (mt_countD hu) ha (pa_cons hb pa_nil hs) hbase hfew hline hs hplain) fun σ H Q ⟨fr, S, ad, A, kk⟩ => ⟨fr, S, ad, A, fun S1 H1 ad1 v1 st1 A1 r1 => ?_⟩
      obtain ⟨p, vs, e1, e2, e3⟩ := r1.dd.lst_inv
      refine ⟨by rw [e1]; exact .inl ⟨rfl, _, ex_l A1.grow.sh e2⟩, fr, S1, ad1, A1, fun S2 H2 ad2 v2 st2 A2 r2 => ?_⟩
      have hd := Rp.dpB (K := X.K) (A2.grow.sh) (.lst ds) o1 ((r1.mono st2).dd)
      have hsh := py_shapedB (d := .lst ds) o1 s1
      simp only [D.py] at hd hsh
      rw [e1] at hd ⊢
      exact ⟨p, v2, _, _, rfl, rfl, hd, Rp.dpB A2.grow.sh _ o2 r2.dd, hsh, py_shapedB o2 s2, kk S2 H2 ad2 _ (st1.trans st2) A2 (.d (.int _))⟩
    · cases h
  · cases h
theorem ed_indexDM (hu : X.A.units + 65 < cLine) (ha : ED X ρ a (.d d) ρ1) (hb : ED X ρ1 b (.d d') ρ2) (h : dIndexD d d' = some w)
    (hbase : attributeBase a "index" X.env (eval a X.env) = eval a X.env)
    (hfew : ((backTo cpos (starEach [b] X.env)).all (fun x => !x.1) && (backToKw cpos (keywordEach [] X.env)).all (fun x => x.1.isSome)
      && decide ([b].length + ([] : List Keyword).length + (if ([] : List Keyword).isEmpty then 0 else 1) < 30)) = true)
    (hline : (apos.endLine == cpos.line) = true) (hs : starEach [b] X.env = (false, eval b X.env) :: starEach [] X.env) (hplain : (backTo cpos (starEach [] X.env)).any (·.1) = false) :
    ED X ρ (.Call (.Attribute a "index" apos) [b] [] cpos) (.d w) ρ2 := by
  unfold dIndexD at h
  split at h
  · rename_i ds
    split at h
    · rename_i hb'
      obtain ⟨j, hj, h⟩ := bnd h
      cases h
      obtain ⟨o1, o2, s1, s2⟩ := dBoth_ok hb'
      obtain ⟨h1, h2, h3⟩ := List.findIdx?_eq_some_iff_getElem.mp hj
      refine ed_of (pe_bm PySem.F.plainAttrs_list PySem.F.slot_list_index PySem.F.type_list_index (mt_indexD hu) ha (pa_cons hb pa_nil hs) hbase hfew hline hs hplain) fun σ H Q ⟨fr, S, ad, A, kk⟩ => ⟨fr, S, ad, A, fun S1 H1 ad1 v1 st1 A1 r1 => ?_⟩
      obtain ⟨p, vs, e1, e2, e3⟩ := r1.dd.lst_inv
      refine ⟨by rw [e1]; exact .inl ⟨rfl, _, ex_l A1.grow.sh e2⟩, fr, S1, ad1, A1, fun S2 H2 ad2 v2 st2 A2 r2 => ?_⟩
      have hd := Rp.dpB (K := X.K) (A2.grow.sh) (.lst ds) o1 ((r1.mono st2).dd)
      have hsh := py_shapedB (d := .lst ds) o1 s1
      simp only [D.py] at hd hsh
      rw [e1] at hd ⊢
      refine ⟨p, v2, _, _, j, _, rfl, rfl, hd, Rp.dpB A2.grow.sh _ o2 r2.dd, hsh, py_shapedB o2 s2, List.getElem?_eq_getElem h1, h2, fun m z' hm hz => ?_, kk S2 H2 ad2 _ (st1.trans st2) A2 (.d (.int _))⟩
      have h4 := h3 m hm
      obtain ⟨_, h5⟩ := List.getElem?_eq_some_iff.mp hz
      rw [h5] at h4
      simpa using h4
    · cases h
  · cases h
end
/-! ### the caught exception: isinstance, its fields -/
section
variable {X : Cx} {ρ ρ1 : Env} {ae C D0 : Addr} {oe : Obj} {d : Option Addr} {pn : List (Addr × Obj)} {x : XV} {e : Expr} {pos pp : Pos} {bb : Bool} {n : Str} {w : D}
def rIsX (K : PySem.W.Frag) (D0 a : Addr) (d : Option Addr) : List V → Hp → VK → Prop := fun xs H Q => ∃ (c : V) (cv : Value) (b : Bool), xs = [.ref a, c] ∧ (∀ u, RelV c u → u = cv) ∧ PySem.W.kitOne K (.ref D0) cv = some b ∧ (∀ dd, d = some dd → ∃ fs, H dd = some (.xd fs)) ∧ Q (.bl b) H
theorem call_isX (T : L2.ExcC X.K D0) (hz : Zc (.ref D0) d oe) (hf : ∃ vs, oe.data = .fields vs) : CallR (X.suite ae ((ae, oe) :: pn)) (.builtin "isinstance") (rIsX X.K D0 ae d) := by
  intro pins s σ H xs us Q I r h
  obtain ⟨c, cv, b, rfl, hcv, e, hdd, q⟩ := h
  cases r with
  | cons rx rr =>
    cases rr with
    | cons rt rr =>
      cases rr
      cases rx
      have ec := hcv _ rt
      subst ec
      obtain ⟨hget, _⟩ := I.pin (ae, oe) (List.mem_append.mpr (.inl List.mem_cons_self))
      obtain ⟨vs, hv⟩ := hf
      have hcl : (PySem.W.clsIn X.K D0).isSome = true := by
        obtain ⟨cd, hc, _⟩ := PySem.W.any_some T.hd
        rw [hc]; rfl
      have J : ∃ od, PySem.W.InstAt s.heap ae oe D0 od := by
        cases d with
        | none => exact ⟨none, hget, hz.1, by unfold PySem.W.notCls; rw [hv] <;> rfl, by rw [hz.2]; trivial⟩
        | some dd =>
          obtain ⟨u, hu⟩ := hdd dd rfl
          obtain ⟨od, ho⟩ : ∃ od, s.heap.get? dd = some od := by
            have hx : ObjOk X.prog X.w H s.heap dd (.xd u) := I.hok dd _ hu
            obtain ⟨mA, ⟨o, _, _, e', _⟩, _⟩ := hx
            exact ⟨o, e'⟩
          exact ⟨some od, hget, hz.1, by unfold PySem.W.notCls; rw [hv] <;> rfl, by rw [hz.2]; exact ho⟩
      obtain ⟨od, J⟩ := J
      exact PySem.W.kia_one (PySem.W.kitx_exc (gt := none) hcl T.hg T.hk T.hs T.ha T.hn T.ht T.hm) I.kIn J e (fun z => nomatch z) fun tk => ⟨.bl b, H, I.kept (t' := tk) fun _ _ z => z, rfl, q⟩
theorem exP_inv {K : PySem.W.Frag} {S : Hp} {v : V} {i : Nat} {cls : Value} (h : Rp K S v (.lam i (exP K cls d x ae))) : v = .ref ae ∧ IsX K S S cls d x := by
  cases h with
  | lam _ h =>
    obtain ⟨h1, h2⟩ := h S (.refl _)
    subst h1
    exact ⟨rfl, h2⟩
theorem cb_isX {i : Nat} (T : L2.ExcC X.K x.cls) (hz : Zc (.ref x.cls) d oe) (hf : ∃ vs, oe.data = .fields vs) (hk : PySem.W.kitOne X.K (.ref x.cls) (.ref C) = some bb) :
    CBR (X.suite ae ((ae, oe) :: pn)) (.builtin "isinstance") ρ [.d (.lam i (exP X.K (.ref x.cls) d x ae)), .d (.ref C)] (.d (.bl bb)) ρ := ⟨_, call_isX T hz hf, fun fr σ S H ad vs Q A r0 k => by
  obtain ⟨v, w, rfl, r1, r2⟩ := rv2 r0
  obtain ⟨rfl, ix⟩ := exP_inv r1.dd
  have hw : w = .ref C := by cases r2.dd; rfl
  subst hw
  refine ⟨_, .ref C, bb, rfl, fun u hu => by cases hu; rfl, hk, fun dd ed => ?_, k S H ad _ (.refl _ _) A (.d (.bl _))⟩
  rcases ix.2 with ⟨_, _, z⟩ | ⟨dx, ws, h1, h2, h3, h4⟩
  · rw [z] at ed; cases ed
  · rw [h1] at ed; cases ed
    exact ⟨_, A.grow.sh _ _ h3⟩⟩
theorem cb_isXt {i : Nat} {t : String} (T : L2.ExcC X.K x.cls) (hz : Zc (.ref x.cls) d oe) (hf : ∃ vs, oe.data = .fields vs) (hk : PySem.W.kitOne X.K (.ref x.cls) (.type t) = some bb) :
    CBR (X.suite ae ((ae, oe) :: pn)) (.builtin "isinstance") ρ [.d (.lam i (exP X.K (.ref x.cls) d x ae)), .d (.ty t)] (.d (.bl bb)) ρ := ⟨_, call_isX T hz hf, fun fr σ S H ad vs Q A r0 k => by
  obtain ⟨v, w, rfl, r1, r2⟩ := rv2 r0
  obtain ⟨rfl, ix⟩ := exP_inv r1.dd
  have hw : w = .ty t := by cases r2.dd; rfl
  subst hw
  refine ⟨_, .type t, bb, rfl, fun u hu => by cases hu; rfl, hk, fun dd ed => ?_, k S H ad _ (.refl _ _) A (.d (.bl _))⟩
  rcases ix.2 with ⟨_, _, z⟩ | ⟨dx, ws, h1, h2, h3, h4⟩
  · rw [z] at ed; cases ed
  · rw [h1] at ed; cases ed
    exact ⟨_, A.grow.sh _ _ h3⟩⟩
theorem lookup_zip_get {K : PySem.W.Frag} {S : Hp} : ∀ {ns : List Str} {vs : List V} {ds : List D} {w : D}, RpAll K S vs ds → ns.length = vs.length → (ns.zip ds).lookup n = some w → ∃ v, (ns.zip vs).lookup n = some v ∧ Rp K S v w
  | [], _, _, _, _, _, h => by simp at h
  | m :: ns, _, _, w, .nil, hl, _ => by simp at hl
  | m :: ns, v :: vs, d :: ds, w, .cons a b, hl, h => by
    simp only [List.zip_cons_cons, List.lookup_cons] at h ⊢
    split at h
    · rename_i e
      cases h
      exact ⟨v, by simp [e], a⟩
    · rename_i e
      obtain ⟨v', h1, h2⟩ := lookup_zip_get b (by simpa using hl) h
      exact ⟨v', by simp [e, h1], h2⟩
/-- e.n -/
theorem ed_xf {i : Nat} (T : XfC X.K x.cls) (hno : PySem.W.findIn X.K (.ref x.cls) n = some none) (hz : Zc (.ref x.cls) d oe) (hf : ∃ vs, oe.data = .fields vs) (he : ED (X.suite ae ((ae, oe) :: pn)) ρ e (.d (.lam i (exP X.K (.ref x.cls) d x ae))) ρ1) (hw : (x.ns.zip x.ds).lookup n = some w)
    (hb : attributeBase e n X.env (eval e X.env) = eval e X.env := by rfl) : ED (X.suite ae ((ae, oe) :: pn)) ρ (.Attribute e n pos) (.d w) ρ1 :=
  ed_of (pe_xf (cls := .ref x.cls) (d := d) T hno hz hf he hb) fun σ H Q ⟨fr, S, ad, A, kk⟩ => ⟨fr, S, ad, A, fun S1 H1 ad1 v1 st1 A1 r1 => by
    obtain ⟨rfl, ix⟩ := exP_inv r1.dd
    rcases ix.2 with ⟨z, _⟩ | ⟨dx, ws, h1, h2, h3, h4⟩
    · rw [z] at hw; simp at hw
    · obtain ⟨v, hv, rv⟩ := lookup_zip_get h4 h2 hw
      exact ⟨rfl, rfl, dx, _, v, h1, A1.grow.sh _ _ h3, hv, kk S1 H1 ad1 v st1 A1 (.d rv)⟩⟩
end
end DL

namespace DL
open PySem PySem.Spec PyProof.Rows L2
/-! ### a def that hands back a new object, which is the caller's from then on -/
abbrev OSpec := List VD → OD → Prop
def spO (K : PySem.W.Frag) (R : OSpec) : Sp := fun vs H Q _ => ∃ S xs ds o, Ex S H ∧ RvAll K S [] vs xs ∧ AllD xs ds ∧ R xs o ∧ ∀ S' H' l ho, Grow [] S H S' H' → S' l = none → H' l = some ho → H l = none → OR K S' [] l ho o → Q (.ref l) H'
def knO (o : OD) : Kn := { nx := fun _ => False, rt := fun _ _ => False, ro := fun n ρ => ρ.ow[n]? = some (some o) }
/-- an object that is there is ours -/
theorem Rel.addO {K : PySem.W.Frag} {fr : Fr} {ρ : Env} {σ : L2.St} {S H : Hp} {ad : List Addr} (R : Rel K fr ρ σ S H ad) {p : Addr} {ho : HO} {o : OD} (hS : S p = none) (hp : H p = some ho) (hn : p ∉ ad) (hf : fr.H p = none) (h : OR K S (ad ++ [p]) p ho o) :
    Rel K fr { ρ with ow := ρ.ow ++ [some o] } σ S H (ad ++ [p]) ∧ Step S ad S (ad ++ [p]) ∧ (ad ++ [p])[ρ.ow.length]? = some p := by
  have hst : Step S ad S (ad ++ [p]) := ⟨.refl _, [p], rfl⟩
  have hm : ρ.m ≤ ad.length := by
    have := congrArg List.length R.mm.2
    rw [List.length_take, R.mm.1] at this; omega
  refine ⟨⟨R.grow, fun i x e => ?_, fun n u e => ?_, ⟨R.mm.1, ?_⟩, ?_, R.len, ?_, fun n hn => ?_, fun l hl => ?_⟩, hst, ?_⟩
  · obtain ⟨v, e1, e2⟩ := R.slots i x e
    exact ⟨v, e1, e2.mono hst⟩
  · by_cases hlt : n < ρ.ow.length
    · have e' : ρ.ow[n]? = some (some u) := by rw [← e]; exact (List.getElem?_append_left hlt).symm
      obtain ⟨l, ho', e1, e2, e3, e4, e5⟩ := R.own n u e'
      exact ⟨l, ho', hst.get e1, e2, e3, e4.mono hst, e5⟩
    · have hlt2 := (List.getElem?_eq_some_iff.mp e).1
      simp at hlt2
      have hn' : n = ρ.ow.length := by omega
      subst hn'
      have : u = o := by simpa using e.symm
      subst this
      exact ⟨p, ho, by rw [← R.al]; simp, hS, hp, h, fun _ => hf⟩
  · rw [List.take_append_of_le_length hm]; exact R.mm.2
  · refine List.nodup_append.mpr ⟨R.nd, by simp, fun a ha b hb => ?_⟩
    have : b = p := by simpa using hb
    subst this
    exact fun z => hn (z ▸ ha)
  · simp [R.al]
  · obtain ⟨o', e⟩ := R.ml n hn
    exact ⟨o', by rw [← e]; exact List.getElem?_append_left (List.getElem?_eq_some_iff.mp e).1⟩
  · rcases List.mem_append.mp hl with z | z
    · exact R.lv l z
    · have : l = p := by simpa using z
      subst this; rw [hp]; simp
  · rw [← R.al]; simp
section
variable {P : Program} {w : World} {K : PySem.W.Frag} {mg : Str → Option Value} {base : Heap} {x qual : Str} {params : Arguments} {body : List Stmt} {scope : Scope} {f : Addr} {fd : FuncData} {N ps : List Str} {j : Nat} {R : OSpec}
theorem fn_DO (F : FunD K x qual params body scope [] [] f fd) (sc : FnScope N ps scope) (hb : Binds K fd ps []) (hlen : ∀ xs o, R xs o → xs.length = ps.length ∧ o.free)
    (hbody : ∀ (cdv : Value) (A : Around) (outer : List PySem.Env) (s : Shared) (H : Hp) (E : XK), Room j (A.deeper (envOfC qual scope s.heap.objs.size f cdv)) → ∀ xs o, R xs o →
      SDs (cxOf CX0 P w K mg base N qual scope f cdv A outer s H E).nox (env0 N xs []) body (knO o)) : FnR P w K mg base CX0 (j + 1) f (spO K R) := by
  have F1 : FnOk P w K mg base CX0 (j + 1) f fd ps (spO K R) := by
    refine F.ok sc (fun vs H Q E h => ?_) (fun cdv A outer s H vs Q E hr h => ?_)
    · obtain ⟨S, xs, ds, o, _, hv, _, h5, _⟩ := h
      rw [hv.length]; exact (hlen _ _ h5).1
    · obtain ⟨S, xs, ds, o, h1, hv, hd, h5, k⟩ := h
      obtain ⟨l1, l2⟩ := hlen _ _ h5
      have hn : xs.length ≤ N.length := by
        have := congrArg List.length sc.pre
        rw [List.length_take] at this
        omega
      refine ⟨_, (hbody cdv A outer s H E hr xs o h5).nox, ⟨[], S, H⟩, S, [], Rel.start h1 hv ⟨rfl, fun n u e => by simp at e⟩ .nil hn, ⟨fun _ _ _ _ _ z => z.elim, fun _ _ _ _ _ _ _ z => z.elim, fun _ _ _ _ _ z => z.elim, fun _ _ _ _ _ z => z.elim, fun n ρ σ S' H' ad' l hk A' hl => ?_⟩⟩
      obtain ⟨l', ho, e1, e2, e3, e4, e5⟩ := A'.own n o hk
      rw [hl] at e1; cases e1
      have hm : ρ.m = 0 := A'.mm.1.symm
      exact k S' H' l ho A'.grow e2 e3 (e5 (by omega)) (e4.free l2)
  have F2 := F1.raw hb (dvs := []) .nil
  refine F2.imp fun vs H Q E h => ?_
  rw [List.append_nil]; exact h
structure OGs (P : Program) (w : World) (K : PySem.W.Frag) (mg : Str → Option Value) (base : Heap) (A : Around) (x : Str) (R : OSpec) : Prop where
  ex : ∃ f j, FnR P w K mg base CX0 j f (spO K R) ∧ Room j A ∧ mg x = some (.ref f) ∧ PySem.W.keepIn K (.ref f) = true
abbrev OG (X : Cx) : Str → OSpec → Prop := OGs X.prog X.w X.K X.mg X.base X.A
end
section
variable {X : Cx} {ρ ρ1 : Env} {e : Expr} {es : List Expr} {xs : List VD} {ds : List D} {n : Str} {R : OSpec} {o : OD} {pp pos : Pos}
theorem AllD.nilR {K : PySem.W.Frag} {S : Hp} {ad ad' : List Addr} {xs : List VD} {ds : List D} {vs : List V} (h : AllD xs ds) (r : RvAll K S ad vs xs) : RvAll K S ad' vs xs := by
  induction h generalizing vs with
  | nil => cases r; exact .nil
  | cons _ ih =>
    cases r with
    | cons a b => exact .cons (.d a.dd) (ih b)
theorem ed_callRO (C : OG X n R) (ha : AD X ρ (e :: es) xs ρ1) (hd : AllD xs ds) (hR : R xs o) (hg : Gl X n) (hdb : (n == ("__debug__" : Str)) = false := by decide)
    (he : starEach (e :: es) X.env = (false, eval e X.env) :: starEach es X.env := by rfl) (hpl : (backTo pos (starEach es X.env)).any (·.1) = false := by rfl) :
    ED X ρ (.Call (.Name n pp) (e :: es) [] pos) (.loc ρ1.ow.length) { ρ1 with ow := ρ1.ow ++ [some o] } := by
  obtain ⟨f, j, F, hr, hm, hk⟩ := C.ex
  refine ed_of (pe_callR (E := E0) F hr hg hm hk ha hdb he hpl) fun σ H Q ⟨fr, S, ad, A, kk⟩ => ⟨fr, S, ad, A, fun S1 H1 ad1 vs st1 A1 r1 => ?_⟩
  refine ⟨S1, xs, ds, o, A1.grow.sh, hd.nilR r1, hd, hR, fun S' H' l ho g e1 e2 e3 e4 => ?_⟩
  obtain ⟨A2, st2⟩ := A1.after g
  obtain ⟨A3, st3, hat⟩ := A2.addO (p := l) (ho := ho) (o := o) e1 e2 (fun z => A1.lv l z e3) (A1.fr0 e3) (OR.mono (ad := []) ⟨.refl _, ad1 ++ [l], rfl⟩ e4)
  exact kk S' H' _ _ (st1.trans (st2.trans st3)) A3 (.loc hat)
end
end DL

namespace DL
open PySem PySem.Spec PyProof.Rows L2
/-! ### raise -/
/-- an own class without an __init__, over ValueError -/
structure XC0 (K : PySem.W.Frag) (C : Addr) : Prop where
  q : PySem.W.excIn K C PySem.HandSPX.veTail "ValueError.__new__" = true
  kC : PySem.W.keepIn K (.ref C) = true
  s : PySem.W.subIn K (.ref C) (.type "BaseException") = some true
  t : PySem.W.typeIn K (.ref C) = some (.type "type")
section
variable {X : Cx} {E : XK} {ρ ρ1 : Env} {e : Expr} {r : List Stmt} {n m f : Str} {C fI : Addr} {p p2 pos pos' : Pos} {j : Nat} {P N : Env → Prop} {i : Int}
/-- what the __init__ of a class with one field does -/
def spI1 (K : PySem.W.Frag) (f : Str) : Sp := fun vs H Q _ => ∃ (a C : Addr) (i : Int), vs = [.ref a, .int i] ∧ i.natAbs < 10 ^ 64 ∧ OexC K C ∧ PySem.W.findIn K (.ref C) f = some none ∧ H a = some (exo a C none) ∧ ∀ dx, H dx = none → dx ≠ a → Q .non (upd (upd H dx (exd dx [(f, .int i)])) a (exo a C (some dx)))
/-- the __init__ that the class has -/
structure XC1 (P : Program) (w : World) (K : PySem.W.Frag) (mg : Str → Option Value) (base : Heap) (A : Around) (C : Addr) (f : Str) : Prop where
  T : OexC K C
  no : PySem.W.findIn K (.ref C) f = some none
  ex : ∃ fI k fd ps, PySem.W.findIn K (.ref C) "__init__" = some (some (.ref fI)) ∧ PySem.W.typeIn K (.ref fI) = some (.type "function") ∧ FnOk P w K mg base CX0 k fI fd ps (spI1 K f) ∧ Room (k + 1) A ∧ Binds K fd ps []
/-- raise C(e), e an int -/
theorem sx_raise1 (hc : X.calm = true) (tk : Lets X E) (T : XC1 X.prog X.w X.K X.mg X.base X.A C f) (hm : X.mg n = some (.ref C)) (hg : Gl X n) (he : ED X ρ e (.d (.int i)) ρ1) (hi : i.natAbs < 10 ^ 64) (hp : P ρ1) (hdb : (n == ("__debug__" : Str)) = false := by decide)
    (hst : starEach [e] X.env = (false, eval e X.env) :: starEach [] X.env := by rfl) :
    SXs X E ρ (.Raise (some (.Call (.Name n p) [e] [] pos')) none pos :: r) ⟨C, [f], [.int i]⟩ P N := by
  obtain ⟨fI, k, fd, ps, h1, h2, F, hr, hb⟩ := T.ex
  refine sx_end ⟨fun pins s σ H Dn I ⟨fr, S, ad, A, kk, kn⟩ => (ps_raise hc tk (pmk_oex (ds := []) (dvs := []) T.T h1 h2 F hr hb .nil CX0_pass hg hm (ad_cons he ad_nil hst) hdb hst rfl)).run pins s σ H Dn I ?_⟩
  refine ⟨fr, S, ad, A, fun S1 H1 ad1 vs st1 A1 r1 => ?_⟩
  have ev : vs = [.int i] := by
    cases r1 with
    | cons r0 rr =>
      cases rr
      rw [r0.di]
  subst ev
  refine ⟨by simp, fun a ha => ⟨a, C, i, rfl, hi, T.T, T.no, upd_same, fun dx h3 h4 => ⟨rfl, dx, _, upd_same, by rw [upd_ne h4]; exact upd_same, ?_, ?_⟩⟩⟩
  · rw [upd_ne h4] at h3; exact h3
  · rw [upd_ne h4] at h3
    have eH : upd (del (upd (upd (upd H1 a (exo a C none)) dx (exd dx [(f, .int i)])) a (exo a C (some dx))) a) dx (.xd [(f, .int i)]) = upd H1 dx (.xd [(f, .int i)]) := by
      funext b
      by_cases hb1 : b = dx
      · subst hb1; rw [upd_same, upd_same]
      · rw [upd_ne hb1, upd_ne hb1]
        by_cases hb2 : b = a
        · subst hb2; rw [del_same, ha]
        · rw [del_ne hb2, upd_ne hb2, upd_ne hb1, upd_ne hb2]
    rw [eH]
    obtain ⟨A2, st2⟩ := A1.newS (p := dx) (o := .xd [(f, .int i)]) h3
    exact kk ρ1 σ _ _ ad1 _ _ hp A2 ⟨rfl, .inr ⟨dx, [.int i], rfl, rfl, upd_same, .cons (.int i) .nil⟩⟩
end
/-! ### the __init__ of a class with one field: S.__init__(self, text); self.f = a -/
section
variable {X : Cx} {CS : Addr} {e : Expr} {es : List Expr} {ta : TA} {n : Str} {p1 p2 pos : Pos} {mc : Value}
theorem pe_oinit {pl : Sem Bool} (hg : Gl X n) (hm : X.mg n = some (.ref CS)) (hs : PySem.W.specialIn X.K (.ref CS) "__getattribute__" = some (some (.builtin "type.__getattribute__"))) (hr : PySem.W.readsIn X.K CS mc = true)
    (hf : PySem.W.findCls X.K (.ref CS) mc "__init__" = some (.val (.builtin "ValueError.__init__"))) (ha : PA X (e :: es) ta) (hdb : (n == ("__debug__" : Str)) = false)
    (hc : eval (.Call (.Attribute (.Name n p1) "__init__" p2) (e :: es) [] pos) X.env = (do
      let ov ← eval (.Name n p1) X.env
      standAt p2.atName
      let (f, first) ← holding [ov] (getMethod ov "__init__" pl)
      callWith pos f first (backTo pos (starEach (e :: es) X.env)) (backToKw pos (keywordEach [] X.env))) := by rfl)
    (he : starEach (e :: es) X.env = (false, eval e X.env) :: starEach es X.env := by rfl) (hpl : (backTo pos (starEach es X.env)).any (·.1) = false := by rfl) :
    PE X (.Call (.Attribute (.Name n p1) "__init__" p2) (e :: es) [] pos) (tVeI X.K ta) := by
  refine ⟨fun pins s σ H Q I h => ?_⟩
  refine PySem.W.methodCall_KW (ld_glob I hg hm ?_ hdb) hc
  refine PySem.W.method_cls I.kIn hs (PySem.W.cls_value I.kIn hr hf (by decide +kernel) ?_)
  show wpAny _ _ (callWith pos (Value.builtin "ValueError.__init__") [] (backTo pos (starEach (e :: es) X.env)) []) _ _ _
  refine PyProof.Rows.callWith_method1 (thn (ha.run pos pins _ σ H _ (I.tok _) h) fun us s1 ⟨vs, H1, I1, r1, a, C, ws, ev, hl, T, ea, q⟩ => ?_) he hpl
  subst ev
  cases r1 with
  | @cons _ u0 _ ur ra rw' =>
    obtain rfl : u0 = Value.ref a := ra
    exact oinit_ok T I1 ea (by rw [← Paired.length rw', sizeLine_eq]; omega) fun s' J => ⟨.non, H1, J, rfl, q⟩
end
/-- the base class of all, as its subclasses' __init__ call it -/
structure BaseC (K : PySem.W.Frag) (mg : Str → Option Value) (n : Str) : Prop where
  ex : ∃ CS mc, mg n = some (.ref CS) ∧ PySem.W.specialIn K (.ref CS) "__getattribute__" = some (some (.builtin "type.__getattribute__")) ∧ PySem.W.readsIn K CS mc = true ∧ PySem.W.findCls K (.ref CS) mc "__init__" = some (.val (.builtin "ValueError.__init__"))
end DL

namespace DL
open PySem PySem.Spec PyProof.Rows L2
/-! ### the text that such an __init__ makes -/
/-- a text of the second parameter, an int -/
def JTxt (X : Cx) (J : Expr) : Prop := ∃ t : TE, PE X J t ∧ ∀ σ H Q (i : Int), σ[1]? = some (some (.int i)) → i.natAbs < 10 ^ 64 → (∀ z : Str, Q (.str z) H) → t σ H Q
section
variable {X : Cx} {c1 c2 an : Str} {j1 j2 : Nat} {q1 q2 q3 q4 q5 : Pos} {i : Int}
theorem small_log (h : i.natAbs < 10 ^ 64) : i.natAbs.log2 < 1920 := by
  by_cases h0 : i.natAbs = 0
  · rw [h0]; decide
  · rw [Nat.log2_lt h0]
    exact Nat.lt_of_lt_of_le h (by decide +kernel)
theorem small_len (h : i.natAbs < 10 ^ 64) : (Str.ofString (toString i)).length ≤ 65 := by
  have := int_text_length_le10 (k := 64) (by decide) h
  rw [PySem.ofString_length]; exact this
theorem str_len_app (a b : Str) : (a ++ b).length = a.length + b.length := by
  show (Str.append a b).cps.size = _
  simp [Str.append, Str.length]
theorem jtxt2 (hN : X.N[1]? = some an) (hv : Vis X.env.scope an) (h1 : c1.length ≤ 1000) (hd : (an == ("__debug__" : Str)) = false) (hcd : (an == ("__classdict__" : Str)) = false) :
    JTxt X (.JoinedStr [.Constant (.str c1) j1 q1, .FormattedValue (.Name an q2) (-1) none q3] q4) := by
  refine ⟨_, pe_joined (.cons pe_str (.cons (pe_fmt (pe_var (i := 1) hN hv hd hcd)) .nil)), fun σ H Q i hs hi k => ?_⟩
  refine ⟨c1, rfl, ?_, .int i, hs, .inr ⟨i, rfl, small_log hi, _, rfl, ?_, k _⟩⟩
  · rw [str_len_app, sizeLine_eq]
    have : Str.empty.length = 0 := rfl
    omega
  · have := small_len hi
    have e0 : Str.empty.length = 0 := rfl
    rw [str_len_app, str_len_app, sizeLine_eq]
    omega
end
section
variable {P : Program} {w : World} {K : PySem.W.Frag} {mg : Str → Option Value} {base : Heap} {qual sn an f : Str} {params : Arguments} {scope : Scope} {fI : Addr} {fd : FuncData} {J : Expr} {p1 p2 p3 p4 p5 p6 p7 p8 p9 : Pos} {k : Nat}
theorem ok_init1 (F : FunD K "__init__" qual params [.Expr (.Call (.Attribute (.Name sn p1) "__init__" p2) [.Name "self" p3, J] [] p4) p5, .Assign [.Attribute (.Name "self" p6) f p7] (.Name an p8) p9] scope [] [] fI fd) (S : FnScope ["self", an] ["self", an] scope)
    (hg : scope.names.lookup sn = some .globalImplicit) (B : BaseC K mg sn) (v0 : Vis scope "self") (v1 : Vis scope an)
    (hJ : ∀ (cdv : Value) (A : Around) (outer : List PySem.Env) (s : Shared) (H : Hp) (E : XK), JTxt (cxOf CX0 P w K mg base ["self", an] qual scope fI cdv A outer s H E) J ∧
      starEach [.Name "self" p3, J] (cxOf CX0 P w K mg base ["self", an] qual scope fI cdv A outer s H E).env = (false, eval (.Name "self" p3) (cxOf CX0 P w K mg base ["self", an] qual scope fI cdv A outer s H E).env) :: starEach [J] (cxOf CX0 P w K mg base ["self", an] qual scope fI cdv A outer s H E).env ∧
      starEach [J] (cxOf CX0 P w K mg base ["self", an] qual scope fI cdv A outer s H E).env = (false, eval J (cxOf CX0 P w K mg base ["self", an] qual scope fI cdv A outer s H E).env) :: starEach [] (cxOf CX0 P w K mg base ["self", an] qual scope fI cdv A outer s H E).env ∧
      swapsWith (.Call (.Attribute (.Name sn p1) "__init__" p2) [.Name "self" p3, J] [] p4) none p5.line (cxOf CX0 P w K mg base ["self", an] qual scope fI cdv A outer s H E).env = pure false ∧ swapsWith (.Name an p8) (some (.Attribute (.Name "self" p6) f p7)) p9.line (cxOf CX0 P w K mg base ["self", an] qual scope fI cdv A outer s H E).env = pure false ∧
      ∃ pl : Sem Bool, eval (.Call (.Attribute (.Name sn p1) "__init__" p2) [.Name "self" p3, J] [] p4) (cxOf CX0 P w K mg base ["self", an] qual scope fI cdv A outer s H E).env = (do
        let ov ← eval (.Name sn p1) (cxOf CX0 P w K mg base ["self", an] qual scope fI cdv A outer s H E).env
        standAt p2.atName
        let (f, first) ← holding [ov] (getMethod ov "__init__" pl)
        callWith p4 f first (backTo p4 (starEach [.Name "self" p3, J] (cxOf CX0 P w K mg base ["self", an] qual scope fI cdv A outer s H E).env)) (backToKw p4 (keywordEach [] (cxOf CX0 P w K mg base ["self", an] qual scope fI cdv A outer s H E).env))))
    (hd : (an == ("__debug__" : Str)) = false) (hcd : (an == ("__classdict__" : Str)) = false) (hdb : (sn == ("__debug__" : Str)) = false) : FnOk P w K mg base CX0 (k + 1) fI fd ["self", an] (spI1 K f) := by
  refine F.ok S (fun vs H Q E h => ?_) (fun cdv A outer s H vs Q E hr h => ?_)
  · obtain ⟨a, C, i, e, _⟩ := h
    rw [e]; rfl
  · obtain ⟨a, C, i, e, hi, T, hno, ha, kq⟩ := h
    subst e
    obtain ⟨CS, mc, b1, b2, b3, b4⟩ := B.ex
    obtain ⟨⟨t, hp, ht⟩, s1, s2, s3, s4, pl, hev⟩ := hJ cdv A outer s H E
    have pv0 : ∀ q : Pos, PE (cxOf CX0 P w K mg base ["self", an] qual scope fI cdv A outer s H E) (.Name "self" q) (tVar 0) := fun q => pe_var (i := 0) rfl v0 (by decide) (by decide)
    have pv1 : ∀ q : Pos, PE (cxOf CX0 P w K mg base ["self", an] qual scope fI cdv A outer s H E) (.Name an q) (tVar 1) := fun q => pe_var (i := 1) rfl v1 hd hcd
    refine ⟨_, pss_cons (ps_expr (pe_oinit (CS := CS) (mc := mc) hg b1 b2 b3 b4 (pa_cons (pv0 p3) (pa_cons hp pa_nil s2) s1) hdb hev s1 (by rw [s2]; rfl)) s3) (pss_one (ps_ost (pv0 p6) (pv1 p8) s4)), ?_⟩
    refine ⟨.ref a, rfl, ht _ _ _ i rfl hi fun z => ?_⟩
    refine ⟨a, C, [.str z], rfl, by simp, T, ha, ?_⟩
    refine ⟨.int i, rfl, .ref a, rfl, a, C, rfl, T, hno, .inl ⟨ha, fun dx h1 h2 => kq dx h1 h2⟩⟩
end
end DL

namespace DL
open PySem PySem.Spec PyProof.Rows L2
/-! ### a def that raises -/
section
variable {P : Program} {w : World} {K : PySem.W.Frag} {mg : Str → Option Value} {base : Heap} {x qual : Str} {params : Arguments} {body : List Stmt} {scope : Scope} {f : Addr} {fd : FuncData} {N ps : List Str} {j : Nat} {R : XSpec}
/-- what its body must reach -/
def pn0 (n : Nat) (os' : List OD) : Env → Prop := fun ρ => ρ.ow.take n = os'.map some
theorem cx_lets {cdv : Value} {A : Around} {outer : List PySem.Env} {s : Shared} {H : Hp} {E : XK} : Lets (cxOf (L2.CX P w) P w K mg base N qual scope f cdv A outer s H E) E := takes_of rfl rfl rfl rfl
theorem body_readX {os os' : List OD} {vs : List V} {xs : List VD} {xx : XV} {H : Hp} {E : XK} {S : Hp} {M : List Addr} {Dn : Ends} (hS : Ex S H) (hv : RvAll K S M vs xs) (ho : OwnA K S H M os) (hM : M.Nodup) (hn : xs.length ≤ N.length) (hf : ∀ o ∈ os', o.free) (hl : os'.length = os.length)
    (k : ∀ S' H' cls d, Grow M S H S' H' → IsX K S' H' cls d xx → OwnA K S' H' M os' → E cls d H') : tSX K (env0 N xs os) xx (pn0 os.length os') (fun _ => False) E Dn (L2.start N vs) H := by
  refine ⟨⟨M, S, H⟩, S, M, Rel.start hS hv ho hM hn, fun ρ σ S' H' ad' cls d hp A ix => ?_, fun _ _ _ _ _ z => z.elim⟩
  exact k S' H' cls d A.grow ix (A.finish (ho.len.trans hl.symm) (by rw [hl]; exact hp) hf)
theorem fnX_D (F : FunD K x qual params body scope [] [] f fd) (sc : FnScope N ps scope) (hb : Binds K fd ps []) (hlen : ∀ xs os r os', R xs os r os' → xs.length = ps.length ∧ os'.length = os.length ∧ ∀ o ∈ os', o.free)
    (hbody : ∀ (cdv : Value) (A : Around) (outer : List PySem.Env) (s : Shared) (H : Hp) (E : XK), Room j (A.deeper (envOfC qual scope s.heap.objs.size f cdv)) → ∀ xs os r os', R xs os r os' → (∀ o ∈ os, o.free) →
      SXs (cxOf (L2.CX P w) P w K mg base N qual scope f cdv A outer s H E) E (env0 N xs os) body r (pn0 os.length os') (fun _ => False)) : FnR P w K mg base (L2.CX P w) (j + 1) f (spX K R) := by
  have F1 : FnOk P w K mg base (L2.CX P w) (j + 1) f fd ps (spX K R) := by
    refine F.ok sc (fun vs H Q E h => ?_) (fun cdv A outer s H vs Q E hr h => ?_)
    · obtain ⟨S, M, xs, os, rr, os', _, hv, _, _, h5, _⟩ := h
      rw [hv.length]; exact (hlen _ _ _ _ h5).1
    · obtain ⟨S, M, xs, os, rr, os', h1, hv, ho, hM, h5, hf, k⟩ := h
      obtain ⟨l1, l2, l3⟩ := hlen _ _ _ _ h5
      refine ⟨_, hbody cdv A outer s H E hr xs os rr os' h5 hf, body_readX h1 hv ho hM ?_ l3 l2 k⟩
      have := congrArg List.length sc.pre
      rw [List.length_take] at this
      omega
  have F2 := F1.raw hb (dvs := []) .nil
  refine F2.imp fun vs H Q E h => ?_
  rw [List.append_nil]; exact h
end
/-! ### more expressions with a part that raises -/
section
variable {X : Cx} {E : XK} {ρ ρ' ρ0 ρ1 ρ2 ρ3 : Env} {e a b c fe : Expr} {es : List Expr} {v y z : VD} {xs ys : List VD} {pos apos cpos pp : Pos} {p q : Bool} {ds ds' dt : List D} {u u' d d' w : D} {n m : Str} {R : XSpec} {x : XV} {C : Addr} {nms : List Str} {fxs : List VD} {os os' : List OD} {ns : List Nat} {o : Nat}
/-- f(e, ..), an instance that is called -/
structure XOs (P : Program) (w : World) (K : PySem.W.Frag) (mg : Str → Option Value) (base : Heap) (A : Around) (C : Addr) (m : Str) (R : XSpec) : Prop where
  ex : ∃ f j, FnR P w K mg base (L2.CX P w) j f (spX K R) ∧ Room (j + 1) A ∧ PySem.W.findIn K (.ref C) m = some (some (.ref f)) ∧ PySem.W.isFn K (.ref f) = true ∧ PySem.W.selfFirst K C = true
end
end DL

namespace DL
open PySem PySem.Spec PyProof.Rows L2 LamX
/-! ### mirrors of what is raised -/
/-- an exception: its class by name, its fields -/
structure XN where
  nm : Str
  ns : List Str
  ds : List D
def XN.xv (G : Str → Addr) (x : XN) : XV := ⟨G x.nm, x.ns, x.ds⟩
/-- the first that is something -/
def orX {α : Type} : Option α → Option α → Option α
  | some x, _ => some x
  | none, b => b
theorem orX_or {α : Type} {a b : Option α} {t : α} (h : orX a b = some t) : a = some t ∨ b = some t := by
  cases a with
  | none => exact .inr h
  | some y => exact .inl h
@[simp] theorem orX_some {α : Type} {x : α} {b : Option α} : orX (some x) b = some x := rfl
@[simp] theorem orX_none {α : Type} {b : Option α} : orX none b = b := rfl
/-- an int of moderate size -/
def dSmall : D → Option Int
  | .int i => if i.natAbs < 10 ^ 64 then some i else none
  | _ => none
theorem dSmall_ok {d : D} {i : Int} (h : dSmall d = some i) : d = .int i ∧ i.natAbs < 10 ^ 64 := by
  cases d <;> simp only [dSmall] at h <;> first | cases h | skip
  split at h
  · cases h; exact ⟨rfl, by assumption⟩
  · cases h
/-- for: what the turns raise, or what comes behind -/
def forX {σ τ : Type} (fx : D → σ → Option τ) (f : D → σ → Option σ) (k : σ → Option τ) : List D → σ → Option τ
  | [], s => k s
  | d :: l, s => orX (fx d s) ((f d s).bind fun s' => forX fx f k l s')
section
variable {X : Cx} {E : XK} {ρ ρ' ρ0 ρ1 ρ2 ρ3 : Env} {e a b c tg iter elt : Expr} {es rest ifs : List Expr} {v y z : VD} {xs ys : List VD} {pos apos cpos pp : Pos} {p q : Bool} {st : Stmt} {r body orelse : List Stmt} {ds ds' : List D} {u u' d d' w : D} {n m : Str} {x : XV} {P N : Env → Prop} {vs : List Nat}
theorem sx_ifM {τ : Type} {A B : Option τ} {t : τ} (hc : TD X ρ c p ρ1) (h : cond p A B = some t) (ha : A = some t → SXs X E ρ1 body x P (fun ρ' => SXs X E ρ' r x P N)) (hb : B = some t → SXs X E ρ1 orelse x P (fun ρ' => SXs X E ρ' r x P N)) : SXs X E ρ (.If c body orelse pos :: r) x P N := by
  cases p with
  | true => exact sx_if hc (fun _ => ha (ct h)) (fun z => nomatch z)
  | false => exact sx_if hc (fun z => nomatch z) (fun _ => hb (cf h))
theorem sx_wk (w : Wk ρ ρ0) (hl : LocOk ρ0) (h : SXs X E ρ0 r x P N) : SXs X E ρ r x P N :=
  ⟨fun pins s σ H Dn I ⟨fr, S, ad, A, kk, kn⟩ => h.run pins s σ H Dn I ⟨fr, S, _, A.wk w hl, kk, kn⟩⟩
/-- for, whose turns may raise -/
theorem sx_for (hi : ItD X ρ tg iter ds ρ1) (I : Nat → Env → Prop) (h0 : I 0 ρ1)
    (hs : ∀ i d ρ, ds[i]? = some d → I i ρ → ∃ ρ', GD X vs ρ tg (.d d) ρ' ∧ (SDs X ρ' body { nx := I (i + 1), ct := I (i + 1), bk := fun _ => False, rt := fun _ _ => False } ∨ SXs X E ρ' body x P (fun _ => False)))
    (hd : ∀ ρ, I ds.length ρ → SXs X E ρ r x P N) (hp : PassesOwn (model X.prog X.w) X.A X.env X.xe) (hc : X.calm = true) (hfs : ∀ x, foldedSetIterable iter X.env x = pure x) : SXs X E ρ (.For tg iter body [] pos :: r) x P N := by
  have hg : PG X tg (fG X.K vs fun i d ρ ρ' => ds[i]? = some d ∧ GD X vs ρ tg (.d d) ρ') := fG_ok fun i d ρ ρ' h => h.2
  have hb : PSs X body (fun Dn σ H => fB X body Dn σ H ∨ ∃ ρ', SXs X E ρ' body x P (fun _ => False) ∧ tSX X.K ρ' x P (fun _ => False) E Dn σ H) := ⟨fun pins s σ H Dn J hh => by
    rcases hh with hh | ⟨ρ', h1, h2⟩
    · exact (fB_ok body).run pins s σ H Dn J hh
    · exact h1.run pins s σ H Dn J h2⟩
  refine ⟨fun pins s σ H Dn J ⟨fr, S, ad, A, kk, kn⟩ => ?_⟩
  refine (pss_cons (ps_for hp hc hi hg hb hfs) (sx_any (B := fun ρ' => SXs X E ρ' r x P N) fun _ h => h)).run pins s σ H Dn J ?_
  refine ⟨fr, S, ad, A, fun S1 H1 ad1 J1 st1 R1 w => ?_⟩
  refine for_it (g := fG X.K vs fun i d ρ ρ' => ds[i]? = some d ∧ GD X vs ρ tg (.d d) ρ') (tb := fun Dn σ H => fB X body Dn σ H ∨ ∃ ρ', SXs X E ρ' body x P (fun _ => False) ∧ tSX X.K ρ' x P (fun _ => False) E Dn σ H) w (fun i σ' H' => ∃ ρ S' ad', I i ρ ∧ Rel X.K fr ρ σ' S' H' ad' ∧ Ex S1 S') ⟨ρ1, S1, ad1, h0, R1, .refl _⟩ (fun i σ' H' _ ⟨ρ, S', ad', _, R', e⟩ => e.trans R'.grow.sh) ?_ ?_
  · rintro i xv σ' H' H2 hlt ⟨ρ', S', ad', hI, R', e⟩ hy
    obtain ⟨S2, d, hd1, st2, R2, rp⟩ := R'.item e hy
    obtain ⟨ρ2, hg2, hb2⟩ := hs i d ρ' hd1 hI
    have Ru := R1.up R2 (e.trans st2.s)
    refine ⟨i, d, ρ', ρ2, ⟨hd1, hg2⟩, ⟨fr.M, S1, fr.H⟩, S2, ad', Ru, .d rp, fun σ3 S3 H3 ad3 st3 R3 _ _ => ?_⟩
    rcases hb2 with hb2 | hb2
    · refine .inl ⟨ρ2, _, hb2, ⟨fr.M, S1, fr.H⟩, S3, ad3, R3, fun ρ4 σ4 S4 H4 ad4 hn R4 => ?_, fun _ _ _ _ _ _ _ z => z.elim, fun _ _ _ _ _ z => z.elim, fun ρ4 σ4 S4 H4 ad4 hn R4 => ?_, fun _ _ _ _ _ _ _ z => z.elim⟩
      · obtain ⟨R5, e5⟩ := R1.down R4
        exact ⟨ρ4, S4, ad4, hn, R5, e5⟩
      · obtain ⟨R5, e5⟩ := R1.down R4
        exact ⟨ρ4, S4, ad4, hn, R5, e5⟩
    · exact .inr ⟨ρ2, hb2, ⟨fr.M, S1, fr.H⟩, S3, ad3, R3, fun ρ4 σ4 S4 H4 ad4 cls d4 hP R4 ix => kk ρ4 σ4 S4 H4 ad4 cls d4 hP (R1.down R4).1 ix, fun _ _ _ _ _ z => z.elim⟩
  · rintro σ' H' ⟨ρ', S', ad', hI, R', e⟩
    exact ⟨ρ', hd ρ' hI, fr, S', ad', R', kk, kn⟩
theorem sx_forC {σ τ : Type} (C : σ → Env) (hL : ∀ s, LocOk (C s)) (fx : D → σ → Option τ) (f : D → σ → Option σ) (kx : σ → Option τ) {s0 : σ} {t : τ} (hi : ItD X ρ tg iter ds ρ1) (hf : forX fx f kx ds s0 = some t) (h0 : Wk ρ1 (C s0))
    (hs : ∀ d s s', f d s = some s' → ∃ l, TG X vs tg d l ∧ SDs X ((C s).puts l) body { nx := fun ρ => Wk ρ (C s'), ct := fun ρ => Wk ρ (C s'), bk := fun _ => False, rt := fun _ _ => False })
    (hx : ∀ d s, fx d s = some t → ∃ l, TG X vs tg d l ∧ SXs X E ((C s).puts l) body x P (fun _ => False))
    (hd : ∀ s, kx s = some t → SXs X E (C s) r x P N) (hp : PassesOwn (model X.prog X.w) X.A X.env X.xe) (hc : X.calm = true) (hfs : ∀ x, foldedSetIterable iter X.env x = pure x) : SXs X E ρ (.For tg iter body [] pos :: r) x P N := by
  refine sx_for (vs := vs) hi (fun i ρ => ∃ s, Wk ρ (C s) ∧ forX fx f kx (ds.drop i) s = some t) ⟨s0, h0, hf⟩ ?_ ?_ hp hc hfs
  · rintro i d ρ hd1 ⟨s, w, hf⟩
    obtain ⟨hlt, hd2⟩ := List.getElem?_eq_some_iff.mp hd1
    rw [List.drop_eq_getElem_cons hlt, hd2] at hf
    simp only [forX] at hf
    rcases orX_or hf with h1 | h1
    · obtain ⟨l, h2, h3⟩ := hx d s h1
      exact ⟨_, h2 ρ, .inr (sx_wk w.puts (hL s).puts h3)⟩
    · obtain ⟨s', h2, h3⟩ := bnd h1
      obtain ⟨l, h4, h5⟩ := hs d s s' h2
      refine ⟨_, h4 ρ, .inl ((sds_wk w.puts (hL s).puts h5).imp (fun ρ' hw => ⟨s', hw, h3⟩) (fun _ _ z => z) (fun _ z => z) (fun ρ' hw => ⟨s', hw, h3⟩))⟩
  · rintro ρ ⟨s, w, hf⟩
    rw [List.drop_length] at hf
    exact sx_wk w (hL s) (hd s hf)
end
/-! ### what is told of a closure -/
def tellM {τ : Type} (x : Option (XN × τ)) (su : XN → Option D) (m : Option (D × τ)) : Option (D × τ) := match x with
  | some (x, t) => (su x).bind fun r => some (r, t)
  | none => m
theorem tellM_or {τ : Type} {x : Option (XN × τ)} {su : XN → Option D} {m : Option (D × τ)} {r : D} {t : τ} (h : tellM x su m = some (r, t)) : (∃ xn, x = some (xn, t) ∧ su xn = some r) ∨ m = some (r, t) := by
  cases x with
  | none => exact .inr h
  | some y =>
    obtain ⟨xn, t'⟩ := y
    obtain ⟨r', h1, h2⟩ := bnd h
    cases h2
    exact .inl ⟨xn, rfl, h1⟩
/-! ### a def that makes closures: its code object is known -/
section
variable {P : Program} {w : World} {K : PySem.W.Frag} {mg : Str → Option Value} {base : Heap} {x qual : Str} {params : Arguments} {body : List Stmt} {scope : Scope} {f : Addr} {fd : FuncData} {N ps : List Str} {j : Nat} {R : FSpec}
theorem fn_DLok (F : FunD K x qual params body scope [] [] f fd) (sc : FnScope N ps scope) (hlen : ∀ xs os r os', R xs os r os' → xs.length = ps.length ∧ os'.length = os.length ∧ ∀ o ∈ os', o.free)
    (hbody : ∀ (A : Around) (outer : List PySem.Env) (s : Shared) (H : Hp) (E : XK), Room j (A.deeper (envOfC qual scope s.heap.objs.size f (.ref (codeA K f)))) → ∀ xs os r os', R xs os r os' → (∀ o ∈ os, o.free) →
      SDs (cxOf CX0 P w K mg base N qual scope f (.ref (codeA K f)) A outer s H E).nox (env0 N xs os) body (kn0 os.length r os')) : FnOk P w K mg base CX0 (j + 1) f fd ps (spF K R) := by
  obtain ⟨oc, od, dV, kV, doc, pm, an, cdv, ct, osl, rfl, lk, hcd, _, _⟩ := F.ex
  have ec : cdv = .ref (codeA K f) := by
    unfold codeA
    rw [lk]
    cases cdv <;> first | rfl | (simp [PySem.W.codeIn] at hcd)
  subst ec
  refine fn_of lk hcd sc (fun vs H Q E h => ?_) (fun A outer s H vs Q E hr h => ?_)
  · obtain ⟨S, M, xs, os, rr, os', _, hv, _, _, h5, _⟩ := h
    rw [hv.length]; exact (hlen _ _ _ _ h5).1
  · obtain ⟨S, M, xs, os, rr, os', h1, hv, ho, hM, h5, hf, k⟩ := h
    obtain ⟨l1, l2, l3⟩ := hlen _ _ _ _ h5
    refine ⟨_, (hbody A outer s H E hr xs os rr os' h5 hf).nox, body_read h1 hv ho hM ?_ l3 l2 k⟩
    have := congrArg List.length sc.pre
    rw [List.length_take] at this
    omega
end
end DL

namespace DL
open PySem PySem.Spec PyProof.Rows L2
section
variable {X : Cx} {ρ ρ' ρ0 ρ1 ρ2 ρ3 : Env} {e a b c : Expr} {es : List Expr} {x y z : VD} {xs ys : List VD} {pos apos cpos pp : Pos} {p q : Bool} {ds ds' : List D} {u u' d d' w : D} {m m' : DM} {n : Nat}
/-! ### d[k] as a target among others -/
/-! ### a <= b < c -/
/-! ### an object of ours is looked at: as data while an expression runs whose value is flat -/
/-- None, a truth value, an int, a text -/
def D.flt : D → Bool
  | .non => true | .bl _ => true | .int _ => true | .str _ => true
  | _ => false
/-- such a one, or a list of such -/
def dFlat : D → Option D
  | .lst ds => if ds.all D.flt = true then some (.lst ds) else none
  | d => if d.flt = true then some d else none
theorem sc_rp {K : PySem.W.Frag} {S S' : Hp} {v : V} {d : D} (hs : d.flt = true) (h : Rp K S v d) : Rp K S' v d := by
  cases h with
  | non => exact .non
  | bl b => exact .bl b
  | int i => exact .int i
  | str x => exact .str x
  | _ => exact absurd hs (by simp [D.flt])
theorem sc_all {K : PySem.W.Frag} {S S' : Hp} : ∀ {vs : List V} {ds : List D}, ds.all D.flt = true → RpAll K S vs ds → RpAll K S' vs ds
  | _, _, _, .nil => .nil
  | _, _, h, .cons a b => by
    simp only [List.all_cons, Bool.and_eq_true] at h
    exact .cons (sc_rp h.1 a) (sc_all h.2 b)
section
variable {K : PySem.W.Frag} {fr : Fr} {σ : L2.St} {S H H' : Hp} {ad : List Addr}
/-- the heap went on, what stood stands -/
theorem Rel.later (R : Rel K fr ρ σ S H ad) (kp : ∀ a o, H a = some o → H' a = some o) : Rel K fr ρ σ S H' ad := by
  refine ⟨⟨R.grow.s, fun a o e => kp a o (R.grow.sh a o e), fun a o e hm => kp a o (R.grow.h a o e hm), R.grow.n⟩, R.slots, fun n o e => ?_, R.mm, R.nd, R.len, R.al, R.ml, fun l hl => ?_⟩
  · obtain ⟨l, ho, e1, e2, e3, e4, e5⟩ := R.own n o e
    exact ⟨l, ho, e1, e2, kp l ho e3, e4, e5⟩
  · cases q : H l with
    | none => exact absurd q (R.lv l hl)
    | some u => rw [kp l u q]; simp
/-- an object that is there, and new, is data -/
theorem Rel.addS (R : Rel K fr ρ σ S H ad) {p : Addr} {o : HO} (hS : S p = none) (hp : H p = some o) (hn : p ∉ ad) (hf : fr.H p = none) : Rel K fr ρ σ (upd S p o) H ad ∧ Step S ad (upd S p o) ad := by
  have hst : Step S ad (upd S p o) ad := ⟨.new hS, [], by simp⟩
  refine ⟨⟨⟨R.grow.s.trans hst.s, fun a u e => ?_, R.grow.h, fun a e h1 h2 => ?_⟩, fun i x e => ?_, fun n u e => ?_, R.mm, R.nd, R.len, R.al, R.ml, R.lv⟩, hst⟩
  · by_cases h : a = p
    · subst h; rw [upd_same] at e; cases e; exact hp
    · rw [upd_ne h] at e; exact R.grow.sh a u e
  · have ne : a ≠ p := fun z => h1 (z ▸ hf)
    rw [upd_ne ne]; exact R.grow.n a e h1 h2
  · obtain ⟨v, e1, e2⟩ := R.slots i x e
    exact ⟨v, e1, e2.mono hst⟩
  · obtain ⟨l, ho, e1, e2, e3, e4, e5⟩ := R.own n u e
    have ne : l ≠ p := fun z => hn (z ▸ List.mem_of_getElem? e1)
    exact ⟨l, ho, e1, by rw [upd_ne ne]; exact e2, e3, e4.mono hst, e5⟩
/-- the view: slots of data as they are, those that hold the n-th object as its data d, others forgotten -/
def vwV (n : Nat) (d : D) : Option VD → Option VD
  | some (.d x) => some (.d x)
  | some (.loc j) => if j = n then some (.d d) else none
  | none => none
def Env.vw (ρ : Env) (n : Nat) (d : D) : Env := ⟨0, ρ.sl.map (vwV n d), []⟩
theorem Rel.view {S' H' : Hp} {l : Addr} {d : D} (R : Rel K fr ρ σ S H ad) (hl : ad[n]? = some l) (eS : Ex S S') (eH : Ex S' H') (rp : Rp K S' (.ref l) d) : Rel K ⟨[], S', H'⟩ (ρ.vw n d) σ S' H' [] := by
  refine ⟨⟨.refl _, eH, fun a o e _ => e, fun a e _ _ => e⟩, fun i x e => ?_, fun k o e => ?_, ⟨rfl, rfl⟩, .nil, ?_, rfl, fun k hk => absurd hk (Nat.not_lt_zero _), fun a ha => ?_⟩
  · have e : (ρ.sl.map (vwV n d))[i]? = some (some x) := e
    rw [List.getElem?_map] at e
    cases q : ρ.sl[i]? with
    | none => rw [q] at e; cases e
    | some y =>
      rw [q] at e
      have e : vwV n d y = some x := by simpa using e
      cases y with
      | none => cases e
      | some y =>
        cases y with
        | d z =>
          cases e
          obtain ⟨v, e1, e2⟩ := R.slots i _ q
          exact ⟨v, e1, .d (e2.dd.mono eS)⟩
        | loc j =>
          have e9 : (if j = n then some (VD.d d) else none) = some x := e
          clear e
          by_cases hj : j = n
          · rw [if_pos hj] at e9
            have e8 := Option.some.inj e9
            subst hj e8
            obtain ⟨v, e1, e2⟩ := R.slots i _ q
            obtain ⟨l', f1, f2⟩ := e2.dl
            rw [hl] at f2; cases f2
            subst f1
            exact ⟨_, e1, .d rp⟩
          · rw [if_neg hj] at e9; cases e9
  · have e : ([] : List (Option OD))[k]? = some (some o) := e
    simp at e
  · show (ρ.sl.map (vwV n d)).length = σ.length
    rw [List.length_map]; exact R.len
  · cases ha
/-- behind the look: a flat value -/
theorem look_back {S1 H1 S2 H2 H3 : Hp} {l : Addr} {o1 : HO} {v : V} {w w' : D} {Q : VK} (R : Rel K fr ρ σ S H ad) (g : Grow [] S1 H1 S2 H2) (hS1 : S1 = upd S l o1) (h1 : ∀ a, a ≠ l → H1 a = H a) (h3 : ∀ a, a ≠ l → H3 a = H2 a) (hl3 : H3 l = H l) (hal : ad[n]? = some l) (hf : dFlat w = some w') (rp : Rp K S2 v w) (hne : ∀ ds, w = .lst ds → v ≠ .ref l)
    (hq : ∀ S', Step S ad S' ad → Rel K fr ρ σ S' H3 ad → Rv K S' ad v (.d w) → Q v H3) : Q v H3 := by
  have kp : ∀ a o, H a = some o → H3 a = some o := fun a o e => by
    by_cases ha : a = l
    · subst ha; rw [hl3]; exact e
    · rw [h3 a ha]; exact g.h a o (by rw [h1 a ha]; exact e) (by simp)
  have R3 := R.later kp
  by_cases hs : w.flt = true
  · exact hq S (.refl _ _) R3 (.d (sc_rp hs rp))
  · cases w with
    | lst ds =>
      simp only [dFlat] at hf
      split at hf
      · rename_i hall
        cases rp with
        | @lst a vs _ sq ra =>
          have hal2 : a ≠ l := fun z => hne ds rfl (by rw [z])
          rcases sq with sq | sq
          · have key : ∀ o, S2 a = some o → (∀ xs, o ≠ .tup xs) → ∃ S', Step S ad S' ad ∧ Rel K fr ρ σ S' H3 ad ∧ S' a = some o := fun o e ht => by
              cases q : S a with
              | some u =>
                have e1 : S1 a = some u := by rw [hS1, upd_ne hal2]; exact q
                have e2 := g.s a u e1
                rw [e] at e2; cases e2
                exact ⟨S, .refl _ _, R3, q⟩
              | none =>
                have e1 : S1 a = none := by rw [hS1, upd_ne hal2]; exact q
                have hH : H a = none := by
                  cases q2 : H a with
                  | none => rfl
                  | some u =>
                    have hz := g.n a e1 (by rw [h1 a hal2, q2]; simp) (fun xs z => ?_)
                    · rw [e] at hz; cases hz
                    · have z2 := g.h a _ z (by simp)
                      have z3 := g.sh a o e
                      rw [z2] at z3; cases z3
                      exact ht xs rfl
                have hH3 : H3 a = some o := by rw [h3 a hal2]; exact g.sh a o e
                obtain ⟨R4, st⟩ := R3.addS (p := a) (o := o) q hH3 (fun z => R.lv a z hH) (R.fr0 hH)
                exact ⟨_, st, R4, upd_same⟩
            rcases sq with sq | ⟨ob, sq⟩
            · obtain ⟨S', st, R4, e⟩ := key _ sq (fun xs z => by cases z)
              exact hq S' st R4 (.d (.lst (.inl (.inl e)) (sc_all hall ra)))
            · obtain ⟨S', st, R4, e⟩ := key _ sq (fun xs z => by cases z)
              exact hq S' st R4 (.d (.lst (.inl (.inr ⟨ob, e⟩)) (sc_all hall ra)))
          · exact hq S (.refl _ _) R3 (.d (.lst (.inr sq) (sc_all hall ra)))
      · cases hf
    | _ => first | exact absurd rfl hs | (simp [dFlat, D.flt] at hf)
end
end
end DL

namespace DL
open PySem PySem.Spec PyProof.Rows L2
section
variable {X : Cx} {ρ ρ' ρ0 ρ1 ρ2 ρ3 : Env} {e a b c : Expr} {pos : Pos} {p q : Bool} {d w : D} {C : Addr} {nms : List Str} {fxs : List VD} {R : FSpec} {os os' : List OD} {o : Nat}
end
end DL

namespace DL
open PySem PySem.Spec PyProof.Rows L2
/-! ### what the head tells of exception classes, as Bools -/
section
variable {K : PySem.W.Frag} {C CS : Addr} {f : Str}
theorem oexB_ok (h : oexB K C = true) : OexC K C := by
  unfold oexB at h
  simp only [Bool.and_eq_true, decide_eq_true_eq] at h
  obtain ⟨h0, h1, h2, h3, h4⟩ := h
  refine ⟨?_, h1, h2, h3, h4⟩
  split at h0
  · rename_i dd cd sl ho
    split at h0
    · rename_i C' bm k0 k1 k2 k3 n k5 hm hs
      simp only [Bool.and_eq_true, beq_iff_eq, Bool.not_eq_true'] at h0
      obtain ⟨rfl, rfl, hdel, hd, hr⟩ := h0
      obtain ⟨nm, bs, mro, ns, qn, hdi, sn, sub, ab, col, del⟩ := cd
      dsimp only at hm hdel hd
      subst hm hdel hd
      obtain ⟨l⟩ := sl
      simp only at hs
      subst hs
      exact ⟨nm, qn, ns, bs, bm, sn, sub, ab, col, dd, k0, k1, k2, k3, k5, ho, hr⟩
    · cases h0
  · cases h0
theorem isXB_ok (h : isXB K C = true) : L2.ExcC K C := by
  unfold isXB at h
  simp only [Bool.and_eq_true, decide_eq_true_eq] at h
  obtain ⟨h1, h2, h3, h4, h5, h6, h7, h8⟩ := h
  exact ⟨h1, h2, h3, h4, h5, h6, h7, h8⟩
theorem isXf (h : isXB K C = true) : XfC K C := by
  have := isXB_ok h
  exact ⟨this.hg, this.hk, this.hs, this.hd⟩
theorem baseB_ok {mg : Str → Option Value} {n : Str} (hm : mg n = some (.ref CS)) (h : baseB K CS = true) : BaseC K mg n := by
  unfold baseB at h
  simp only [Bool.and_eq_true, decide_eq_true_eq] at h
  obtain ⟨h1, h2, h3⟩ := h
  refine ⟨CS, .type "type", hm, h1, h2, ?_⟩
  split at h3
  · rename_i v e
    rw [e, beq_iff_eq.mp h3]
  · cases h3
end
end DL

namespace DL
open PySem PySem.Spec PyProof.Rows L2
theorem EX.to {X : Cx} {E : XK} {ρ ρ1 ρ2 : Env} {e : Expr} {x : XV} (h : EX X E ρ e x ρ1) (e2 : ρ1 = ρ2) : EX X E ρ e x ρ2 := e2 ▸ h
/-! ### which class an exception has, by a list of names -/
def isL (L : List (Str × Str × Bool)) (a b : Str) : Option Bool := (L.find? fun p => p.1 == a && p.2.1 == b).bind fun p => some p.2.2
theorem isL_ok {L : List (Str × Str × Bool)} {a b : Str} {v : Bool} (h : isL L a b = some v) : (a, b, v) ∈ L := by
  obtain ⟨⟨a', b', v'⟩, h1, h2⟩ := bnd h
  cases h2
  have h3 := List.find?_some h1
  have h4 := List.mem_of_find?_eq_some h1
  simp only [Bool.and_eq_true, beq_iff_eq] at h3
  obtain ⟨rfl, rfl⟩ := h3
  exact h4
def inL (L : List Str) (a : Str) : Option Unit := if a ∈ L then some () else none
theorem inL_ok {L : List Str} {a : Str} {u : Unit} (h : inL L a = some u) : a ∈ L := by
  unfold inL at h
  split at h
  · assumption
  · cases h
def xFld (x : XN) (f : Str) : Option D := (x.ns.zip x.ds).lookup f
theorem map_x {α τ : Type} {a : Option α} {t : τ} {y : α × τ} (h : (a.bind fun x => some (x, t)) = some y) : a = some y.1 ∧ y.2 = t := by
  obtain ⟨x, h1, h2⟩ := bnd h
  cases h2
  exact ⟨h1, rfl⟩
/-- the suite of a def's try -/
def tryS : List Stmt → List Stmt
  | .Try _ [.ExceptHandler _ _ su _] _ _ _ :: _ => su
  | _ => []
/-- the name of a lambda's code in the def q -/
abbrev lamQ (q : Str) : Str := q ++ ".<locals>." ++ "<lambda>"
end DL

namespace DL
open PySem PySem.Spec PyProof.Rows L2 LamX
/-! ### the end of a law with tables, K being what the head's hook says -/
theorem walk_tab {l : PySem.W.OpenLaw} {n k : Nat} {q : Program} {loose : List Str} {XP : (Str → Option Value) → Heap → Prop} {YP : World → Heap → Prop} {d : DefRec} {CX : World → CXT} {x : Str}
    (hn : l.most = some n) (hn2 : n ≤ sizeLine) (hdf : d.params.defaults = []) (hr : Room k callerA)
    (F : ∀ (w : World) (mg : Str → Option Value) (fa : Addr) (h : Heap), YP w h → h.Ns mainGlobals mg → mg d.name = some (.ref fa) → ∃ K : PySem.W.Frag, K.In h ∧ LawAtS l w K (CX w) k n x mg fa h)
    (hCX : ∀ (w : World) (H : Hp) (s : Shared) (e : Value) (s' : Shared), CX w [] H s (fun _ _ _ => False) e s' → False) :
    PySem.W.WalkO q loose XP YP l.row.toRowW d [] (fun f vs => PySem.call f vs) := by
  refine Att.attach_callB hn hdf fun w s0 s1 mg mb fa o pm cd doc a vs ns G Y ho hd hcd hmg hobj hints hlen hbits hg => ?_
  obtain ⟨K, KX, fd, cs, sp, h1, h2, h3, h4, h5, h6⟩ := F w mg fa _ Y G.T.g hmg
  exact law_callTs KX G.T.g G.T.b G.T.builtins G.T.nolimit hg h1 h2 h3 G.T.bmain hobj hints (Nat.le_trans hlen hn2) hr h6 h4 (fun H hH hS => h5 H a ns hlen hbits hH hS) fun H e s' => hCX w H s1 e s'
end DL

namespace DL
open PySem PySem.Spec PyProof.Rows L2
/-! ### a list so many times -/
section
variable {X : Cx} {ρ ρ' ρ0 ρ1 ρ2 ρ3 : Env} {e a b c tg iter elt : Expr} {es rest ifs : List Expr} {x y z : VD} {xs ys : List VD} {pos apos cpos pp : Pos} {p q : Bool} {st : Stmt} {r body orelse : List Stmt} {k : Kn} {ds ds' : List D} {u u' d d' w : D} {n : Str} {R : FSpec}
theorem RpAll.times {K : PySem.W.Frag} {S : Hp} {vs : List V} {ds : List D} (h : RpAll K S vs ds) : ∀ n : Nat, RpAll K S (List.replicate n vs).flatten (List.replicate n ds).flatten
  | 0 => .nil
  | n + 1 => by
    rw [List.replicate_succ, List.replicate_succ, List.flatten_cons, List.flatten_cons]
    exact h.append (RpAll.times h n)
/-! ### membership of None, truth values, ints and texts among such -/
/-! ### sorted of a dict's keys -/
theorem RK.keys {K : PySem.W.Frag} {S : Hp} : ∀ {kvs : List (Key × V)} {m : DM}, RK K S kvs m → kvs.map (fun p => p.1) = (m.map fun p => p.1).map Sum.inl
  | [], [], _ => rfl
  | (k, v) :: r, (i, d) :: m, h => by
    obtain ⟨h1, _, h3⟩ := h
    rw [List.map_cons, List.map_cons, List.map_cons, RK.keys h3, h1]
  | [], _ :: _, h => h.elim
  | (_, _) :: _, [], h => h.elim
end
end DL

namespace DL
open PySem PySem.Spec PyProof.Rows L2 LamX
/-! ### comprehensions whose block is entered from a frame that is known -/
section
variable {X : Cx} {pins : List (Addr × Obj)} {σ : L2.St}
/-- of the block's contexts, entered while the frame of X stands -/
abbrev BlkI (X : Cx) (pins : List (Addr × Obj)) (σ : L2.St) (scope : Scope) (P : Cx → Prop) : Prop :=
  ∀ (s : Shared) (H : Hp) (C : Addr) (cl : List (Str × Addr)) (fp : List Addr), Inv X pins σ H s → (∀ b ∈ fp, FpOk X pins H b) → P (X.blk s H scope (compEnvC scope cl C X.env) fp)
variable {elt tg iter : Expr} {ifs : List Expr} {scope : Scope} {own : List (Str × Nat)} {g : L2.TG} {tt : TT} {te : TE}
end
end DL

namespace DL
open PySem PySem.Spec PyProof.Rows L2 LamX
/-! ### closures that are called within a comprehension's block: the maker's frame as it was when the block began -/
def dOnly : List (Option VD) → List (Option VD)
  | [] => []
  | some (.d d) :: r => some (.d d) :: dOnly r
  | _ :: r => none :: dOnly r
/-- the data that the slots hold -/
def SlD (K : PySem.W.Frag) (sl : List (Option VD)) (σ : L2.St) (S : Hp) : Prop := sl.length = σ.length ∧ ∀ (i : Nat) x, (dOnly sl)[i]? = some (some x) → ∃ v d, x = .d d ∧ σ[i]? = some (some v) ∧ Rp K S v d
theorem SlD.mono {K : PySem.W.Frag} {sl : List (Option VD)} {σ : L2.St} {S S' : Hp} (e : Ex S S') (h : SlD K sl σ S) : SlD K sl σ S' := ⟨h.1, fun i x hx => by
  obtain ⟨v, d, h1, h2, h3⟩ := h.2 i x hx
  exact ⟨v, d, h1, h2, h3.mono e⟩⟩
section
variable {X : Cx} {ρ2 ρc : Env} {e b : Expr} {v : VD} {i je : Nat} {x a en xc : Str} {g : Addr} {k : Nat} {pg : Arguments} {sg scope bsc : Scope} {Ng : List Str} {ps : Arguments} {ws : List V} {c : Value} {xx : XV}
  {pins : List (Addr × Obj)} {σ : L2.St} {H : Hp} {s : Shared} {p1 p2 p3 p4 p5 p6 p7 np hp tp p pos : Pos} {b0 : Stmt} {suite : List Stmt} {j0 j1 : Nat} {rd : D} {C : Addr} {cl : List (Str × Addr)} {fp : List Addr} {sl : List (Option VD)}
end
/-! ### the comprehension: no item is kept -/
section
variable {X : Cx} {ρ ρ1 : Env} {elt tg iter : Expr} {ifs : List Expr} {scope : Scope} {own : List (Str × Nat)} {ds : List D} {gv : List Nat} {pos : Pos}
end
end DL

namespace DL
open PySem PySem.Spec PyProof.Rows L2
/-! ### a def with *rest that raises -/
def starX (R : XSpec) : XSpec := fun xs os r os' => ∃ (z : VD) (rest : List VD) (ds : List D), xs = z :: rest ∧ AllD rest ds ∧ ds.length ≤ sizeLine ∧ R [z, .d (.tup ds)] os r os'
section
variable {P : Program} {w : World} {K : PySem.W.Frag} {mg : Str → Option Value} {base : Heap} {x qual : Str} {params : Arguments} {body : List Stmt} {scope : Scope} {f : Addr} {fd : FuncData} {N : List Str} {j : Nat} {R : XSpec} {p1 pv : Str}
theorem fnX_starD (F : FunD K x qual params body scope [] [] f fd) (sc : FnScope N [p1, pv] scope)
    (h0 : ∀ (kV doc pm : Value) (an : Option Addr) (cdv ct a : Value), bindArgs (PySem.W.fnOf x qual params body scope .none kV doc pm an cdv ct) ⟨[a], []⟩ = (newTuple [] >>= fun t => pure [(p1, a), (pv, t)]))
    (h1 : ∀ (kV doc pm : Value) (an : Option Addr) (cdv ct a r : Value) (rs : List Value), bindArgs (PySem.W.fnOf x qual params body scope .none kV doc pm an cdv ct) ⟨a :: r :: rs, []⟩ = (newTuple (r :: rs) >>= fun t => pure [(p1, a), (pv, t)]))
    (hlen : ∀ xs os r os', R xs os r os' → xs.length = 2 ∧ os'.length = os.length ∧ ∀ o ∈ os', o.free)
    (hbody : ∀ (cdv : Value) (A : Around) (outer : List PySem.Env) (s : Shared) (H : Hp) (E : XK), Room j (A.deeper (envOfC qual scope s.heap.objs.size f cdv)) → ∀ xs os r os', R xs os r os' → (∀ o ∈ os, o.free) →
      SXs (cxOf (L2.CX P w) P w K mg base N qual scope f cdv A outer s H E) E (env0 N xs os) body r (pn0 os.length os') (fun _ => False)) : FnR P w K mg base (L2.CX P w) (j + 1) f (spX K (starX R)) := by
  obtain ⟨oc, od, dV, kV, doc, pm, an, cdv, ct, osl, rfl, lk, hcd, hdf, _⟩ := F.ex
  have hdV : dV = .none := by
    rcases hdf with ⟨_, e⟩ | ⟨e, _⟩
    · exact e
    · exact absurd rfl e
  subst hdV
  have G := StX.fn_star (P := P) (w := w) (mg := mg) (base := base) (k := j) (CX := L2.CX P w) (ps := [p1]) (pv := pv) (sp := spX K R) lk hcd sc StX.cxUp
    (StX.bind_star1 (B := fun l => bindArgs (PySem.W.fnOf x qual params body scope .none kV doc pm an cdv ct) ⟨l, []⟩) (p1 := p1) (pv := pv) (fun a => h0 kV doc pm an cdv ct a) (fun a r rs => h1 kV doc pm an cdv ct a r rs)) (fun A outer s H vs Q E hr h => ?_)
  · refine G.imp fun vs H Q E h => ?_
    obtain ⟨S, M, xs, os, rr, os', hS, hv, ho, hM, ⟨z, rest, ds, rfl, ha, hz, hR⟩, hf, k⟩ := h
    cases hv with
    | @cons v vs' _ _ rz rrest =>
      have ra := ha.rp rrest
      refine ⟨[v], vs', rfl, rfl, by rw [ra.length]; exact hz, fun p hp => ?_⟩
      have hSp : S p = none := hS.back hp
      have st : Step S M (upd S p (.tup vs')) M := ⟨.new hSp, [], by simp⟩
      refine ⟨upd S p (.tup vs'), M, [z, .d (.tup ds)], os, rr, os', hS.both, .cons (rz.mono st) (.cons (.d (.tup upd_same (ra.mono st.s))) .nil), ⟨ho.len, fun n o e => ?_⟩, hM, hR, hf, fun S' H' cls d g ix oa => k S' H' cls d ⟨st.s.trans g.s, g.sh, fun a o e hm => g.h a o (by rw [upd_ne (ne_of_none e hp)]; exact e) hm, fun a e1 e2 e3 => g.n a ?_ ?_ ?_⟩ ix oa⟩
      · obtain ⟨l, hu, e1, e2, e3, e4⟩ := ho.at_ n o e
        have ne : l ≠ p := ne_of_none e3 hp
        exact ⟨l, hu, e1, by rw [upd_ne ne]; exact e2, by rw [upd_ne ne]; exact e3, OR.mono (ad := []) ⟨st.s, [], by simp⟩ e4⟩
      · have ne : a ≠ p := fun q => e2 (q ▸ hp)
        rw [upd_ne ne]; exact e1
      · exact upd_some e2
      · have ne : a ≠ p := fun q => e2 (q ▸ hp)
        rw [upd_ne ne]; exact e3
  · obtain ⟨S, M, xs, os, rr, os', hS, hv, ho, hM, h5, hf, k⟩ := h
    obtain ⟨l1, l2, l3⟩ := hlen _ _ _ _ h5
    refine ⟨_, hbody cdv A outer s H E hr xs os rr os' h5 hf, body_readX hS hv ho hM ?_ l3 l2 k⟩
    have := congrArg List.length sc.pre
    rw [List.length_take] at this
    simp at this
    omega
end
/-! ### the items of a comprehension over closures -/
section
variable {X : Cx} {scope : Scope} {gv vs : List Nat} {ρ1 : Env} {tg : Expr} {ifs : List Expr} {d : D} {ds : List D}
end
/-! ### isinstance(x, (A, B)), built-in types -/
section
variable {X : Cx} {ρ : Env} {d : D} {p : Bool}
end
theorem EX.from {X : Cx} {E : XK} {ρ ρ0 ρ1 : Env} {e : Expr} {x : XV} (h : ρ = ρ0) (h2 : EX X E ρ0 e x ρ1) : EX X E ρ e x ρ1 := h ▸ h2
end DL

namespace DL
open PySem PySem.Spec PyProof.Rows L2
section
variable {X : Cx} {E : XK} {ρ ρ' ρ0 ρ1 ρ2 ρ3 : Env} {e a b c tg iter elt : Expr} {ifs : List Expr} {scope : Scope} {pos : Pos} {x : XV}
end
/-! ### a < b <= c < d -/
section
variable {X : Cx} {ρ : Env} {a b c e : Expr} {pos : Pos} {ta tb tc td : TE} {r1 r2 r3 : R2} {o1 o2 o3 : CmpOp} {d d' d2 d3 : D} {p q t : Bool}
end
/-! ### len of a dict of ours -/
section
variable {X : Cx} {ρ : Env} {m : DM}
theorem RK.len {K : PySem.W.Frag} {S : Hp} {kvs : List (Key × V)} {m : DM} (h : RK K S kvs m) : kvs.length = m.length := by
  have := congrArg List.length h.keys
  simpa using this
end
end DL

namespace DL
open PySem PySem.Spec PyProof.Rows L2
/-! ### min and max of a dict whose keys are ints -/
section
variable {X : Cx} {ρ : Env} {d w : D}
/-- a dict's keys, met one by one -/
structure KeyWalk (X : Cx) (s : Shared) (a : Addr) (is : List Int) (vs : List (Key × Value)) (ep : Nat) : Prop where
  sys : (a == sysModules) = false
  dat : s.heap.DictAt (mixKind X.prog X.w) a vs ep
  lt : a < s.heap.objs.size
  len : vs.length = is.length
  val : ∀ (i : Nat) (v : Value), (∃ k x, vs[i]? = some (k, x) ∧ (mixKind X.prog X.w).is k v = true) → ∃ t, v = Value.int (is.getD i 0) t
end
end DL

namespace DL
open PySem PySem.Spec PyProof.Rows L2
/-! ### d.items(), of a dict that is data: list(..), sorted(..) -/
section
variable {X : Cx} {ρ ρ1 : Env} {d w : D} {e : Expr} {apos pos : Pos} {m : DM}
/-- pairs that are there are data -/
theorem Rel.pairs {K : PySem.W.Frag} {fr : Fr} {ρ : Env} {σ : L2.St} {H : Hp} {ad : List Addr} : ∀ {ts : List Addr} {kvs : List (Key × V)} {m : DM} {S : Hp}, Rel K fr ρ σ S H ad → RK K S kvs m → Paired (fun (t : Addr) (q : Key × V) => H t = some (.tup [kV q.1, q.2])) ts kvs →
    ∃ S', Rel K fr ρ σ S' H ad ∧ Step S ad S' ad ∧ RpAll K S' (ts.map V.ref) (m.map fun p => .tup [.int p.1, p.2])
  | _, _, [], S, R, _, .nil => ⟨S, R, .refl _ _, .nil⟩
  | _, _, _ :: _, S, R, h, .nil => h.elim
  | _, _, [], S, R, h, .cons _ _ => h.elim
  | t :: ts, (k, v) :: kvs, (i, d) :: m, S, R, h, .cons g r => by
    obtain ⟨h1, h2, h3⟩ := h
    subst h1
    obtain ⟨S1, R1, st1, e1⟩ := R.tupS g
    obtain ⟨S2, R2, st2, e2⟩ := Rel.pairs R1 (h3.mono st1.s) r
    refine ⟨S2, R2, st1.trans st2, .cons ?_ e2⟩
    exact .tup (st2.s _ _ e1) (.cons (.int i) (.cons (h2.mono (st1.trans st2).s) .nil))
/-- sorted(d.items()), keys and values small -/
def small (ps : List IP) : Prop := ∀ q ∈ ps, 0 ≤ q.1 ∧ q.1 < 64 ∧ 0 ≤ q.2 ∧ q.2 < 64
instance (ps : List IP) : Decidable (small ps) := inferInstanceAs (Decidable (∀ q ∈ ps, 0 ≤ q.1 ∧ q.1 < 64 ∧ 0 ≤ q.2 ∧ q.2 < 64))
end
end DL

namespace DL
open PySem PySem.Spec PyProof.Rows L2
/-! ### an instance that is called, and raises -/
section
variable {X : Cx} {E : XK} {ρ ρ1 ρ2 : Env} {e fe : Expr} {es : List Expr} {xs : List VD} {pos : Pos} {ds dt : List D} {ns : List Str} {C : Addr} {R : XSpec} {x : XV}
structure XCs (P : Program) (w : World) (K : PySem.W.Frag) (mg : Str → Option Value) (base : Heap) (A : Around) (C : Addr) (R : XSpec) : Prop where
  ex : ∃ f j, FnR P w K mg base (L2.CX P w) j f (spX K R) ∧ Room j A ∧ StX.CallO K C f
end
end DL

namespace DL
open PySem PySem.Spec PyProof.Rows L2
/-! ### range with a step, walked -/
section
variable {X : Cx} {ρ ρ1 ρ2 ρ3 : Env} {a b c tg : Expr} {pos : Pos} {d d' d2 : D} {ds : List D}
/-! ### sorted(set(ints)) -/
end
end DL

namespace DL
open PySem PySem.Spec PyProof.Rows L2
/-! ### targets with a star -/
section
variable {prog : Program} {w : World} {A : Around} {E : Value → Shared → Prop} {s : Shared}
end
section
variable {X : Cx} {ρ ρ' : Env} {a b : Expr} {vs : List Nat} {ds : List D} {d : D} {ps pos : Pos} {kk : Nat}
variable {e : Expr} {r : List Stmt} {k : Kn} {n m : Str} {p1 p2 pp : Pos} {d0 x y : D} {ρ1 : Env}
end
end DL

/-! ### what a run does not wake it leaves as it is: generators that sleep may be exchanged -/
namespace GX
open PySem
open Sem (wp)
/-- never goes on -/
def stuck : Resume → Sem PySem.Fin := fun _ => .unsupported "never woken"
/-- at the places of B the left one is stuck and looks like the right one; elsewhere they are equal and bear no generator's frame -/
def GRel (B : Nat → Prop) (j : Nat) (x y : GenState) : Prop :=
  (B j ∧ ∃ k l l' c p fs cl cl', x = .suspended stuck l c p fs cl ∧ y = .suspended k l' c p fs cl') ∨
  (¬ B j ∧ x = y ∧ ∀ k l c p fs cl, x = .suspended k l c p fs cl → splitAtGen fs = none)
structure RG (B : Nat → Prop) (G G' : Array GenState) : Prop where
  sz : G'.size = G.size
  at_ : ∀ j x, G[j]? = some x → ∃ y, G'[j]? = some y ∧ GRel B j x y
  b : ∀ j, B j → j < G.size
theorem GRel.seen {B : Nat → Prop} {j : Nat} {x y : GenState} (h : GRel B j x y) : y.seen = x.seen := by
  rcases h with ⟨_, k, l, l', c, p, fs, cl, cl', rfl, rfl⟩ | ⟨_, rfl, _⟩ <;> rfl
/-- the places of B stay -/
def Kept (B : Nat → Prop) (G G1 : Array GenState) : Prop := ∀ j, B j → G1[j]? = G[j]?
theorem Kept.refl {B : Nat → Prop} (G : Array GenState) : Kept B G G := fun _ _ => rfl
theorem Kept.trans {B : Nat → Prop} {G G1 G2 : Array GenState} (a : Kept B G G1) (b : Kept B G1 G2) : Kept B G G2 := fun j hj => (b j hj).trans (a j hj)
theorem set_get {G : Array GenState} {g j : Nat} {x : GenState} : (G.setIfInBounds g x)[j]? = if g = j ∧ g < G.size then some x else G[j]? := by
  rw [Array.getElem?_setIfInBounds]
  by_cases h : g = j
  · subst h
    by_cases h2 : g < G.size
    · simp [h2]
    · simp [h2]
  · simp [h]
/-- another generator changes its state -/
theorem RG.set {B : Nat → Prop} {G G' : Array GenState} (h : RG B G G') {g : Nat} (hg : ¬ B g) {x : GenState} (hx : ∀ k l c p fs cl, x = .suspended k l c p fs cl → splitAtGen fs = none) : RG B (G.setIfInBounds g x) (G'.setIfInBounds g x) := by
  refine ⟨by simp [h.sz], fun j y hy => ?_, fun j hj => by have := h.b j hj; simpa using this⟩
  rw [set_get] at hy ⊢
  by_cases e : g = j ∧ g < G.size
  · rw [if_pos e] at hy
    cases hy
    obtain ⟨rfl, e2⟩ := e
    rw [if_pos ⟨rfl, by rw [h.sz]; exact e2⟩]
    exact ⟨x, rfl, .inr ⟨hg, rfl, hx⟩⟩
  · rw [if_neg e] at hy
    rw [if_neg (by rw [h.sz]; exact e)]
    exact h.at_ j y hy
theorem Kept.set {B : Nat → Prop} {G G1 : Array GenState} (h : Kept B G G1) {g : Nat} (hg : ¬ B g) (x : GenState) : Kept B G (G1.setIfInBounds g x) := fun j hj => by
  rw [set_get, if_neg (fun (e : g = j ∧ g < G1.size) => hg (e.1 ▸ hj))]
  exact h j hj
theorem RG.push {B : Nat → Prop} {G G' : Array GenState} (h : RG B G G') (c : Code) : RG B (G.push (.fresh c)) (G'.push (.fresh c)) := by
  refine ⟨by simp [h.sz], fun j y hy => ?_, fun j hj => by have := h.b j hj; simp; omega⟩
  rw [Array.getElem?_push] at hy ⊢
  rw [h.sz]
  by_cases e : j = G.size
  · rw [if_pos e] at hy ⊢
    cases hy
    exact ⟨_, rfl, .inr ⟨fun z => by have := h.b j z; omega, rfl, fun k l c p fs cl z => by cases z⟩⟩
  · rw [if_neg e] at hy ⊢
    exact h.at_ j y hy
theorem Kept.push {B : Nat → Prop} {G G' : Array GenState} (h : RG B G G') (c : Code) : Kept B G (G.push (.fresh c)) := fun j hj => by
  have := h.b j hj
  rw [Array.getElem?_push, if_neg (by omega)]
/-- no generator's frame in what it suspends -/
def EndOk : End → Prop
  | .ret _ => True
  | .susp _ _ _ _ _ _ fs => splitAtGen fs = none
theorem EndOk.gs {e : End} (h : EndOk e) : ∀ k l c p fs cl, e.genState = .suspended k l c p fs cl → splitAtGen fs = none := by
  intro k l c p fs cl z
  cases e with
  | ret r => cases z
  | susp v g l k c p fs => cases z; exact h
abbrev Sw (s : Shared) (G : Array GenState) : Shared := { s with gens := G }
/-- exchanged behind a run -/
def SwR (B : Nat → Prop) (G G' : Array GenState) (s0 s' : Shared) : Prop := ∃ G1, s' = Sw s0 G1 ∧ RG B s0.gens G1 ∧ Kept B G s0.gens ∧ Kept B G' G1
theorem SwR.of {B : Nat → Prop} {G G' H H' : Array GenState} {s0 s' : Shared} (a : Kept B G H) (b : Kept B G' H') (h : SwR B H H' s0 s') : SwR B G G' s0 s' := by
  obtain ⟨G1, e, r, c, d⟩ := h
  exact ⟨G1, e, r, a.trans c, b.trans d⟩
/-! all that sleep at once -/
def isSusp : GenState → Bool
  | .suspended .. => true
  | _ => false
/-- the generators that slept sleep on -/
def Asleep (G G' : Array GenState) : Prop := ∀ (g : Nat) x, G[g]? = some x → isSusp x = true → G'[g]? = some x
end GX

/-! ### a generator's run up to its next yield -/
namespace GX
open PySem
open Sem (wp)
abbrev RP := Result → Shared → Prop
abbrev YP := Value → Shared → GenState → Prop
/-- how a piece ends: it is over, or it sleeps as told -/
def PEnd (Rr : RP) (Yy : YP) (e : End) (s : Shared) : Prop := match e with
  | .ret r => Rr r s
  | .susp v g l k c p fs => (End.susp v g l k c p fs).quiet = true ∧ Yy v s (End.susp v g l k c p fs).genState
def S1 (M : Model) (A : Around) (Rr : RP) (Yy : YP) (c : Code) (t : Sem PySem.Fin) (fs : List Frame) (s : Shared) : Prop :=
  ∀ Γ p, Γ.code = c → Γ.Woken A → ∃ e s', Runs M Γ p t fs s e s' ∧ PEnd Rr Yy e s'
section
variable {M : Model} {A : Around} {Rr : RP} {Yy : YP} {c : Code} {fs : List Frame} {s : Shared}
theorem s1_wrap {α : Type} {m : Sem α} {K : α → Sem PySem.Fin} {J : Value → Sem PySem.Fin} {gd lv}
    (h : wpAny M (A.over c fs) m (fun a s' => S1 M A Rr Yy c (K a) fs s') (fun x s' => S1 M A Rr Yy c (J x) fs s') s) : S1 M A Rr Yy c (m.wrap K J gd lv) fs s := by
  rintro Γ p rfl w
  exact runs_wrap_of_wp K J gd lv m (h (Γ.over fs) p (w.over fs)) (fun a q s1 h1 => h1 Γ q rfl w) fun x q s1 h1 => h1 Γ q rfl w
theorem s1_point {l : List Value} {k : Unit → Sem PySem.Fin} (h : S1 M A Rr Yy c (k ()) fs s) : S1 M A Rr Yy c (.point l k) fs s :=
  s1_wrap (m := point) (K := k) (J := .raise) (gd := id) (lv := fun _ => l) (wpAny_point h)
theorem s1_end (r : Result) (h : Rr r s) : S1 M A Rr Yy c (leafOf r) [] s := by
  rintro Γ p rfl _
  exact ⟨.ret r, s, Runs.leaf r, h⟩
/-! statements -/
variable {env : Env} {K : Flow → Sem PySem.Fin} {J : Value → Sem PySem.Fin} {gd : Bool → Bool} {lv : List Value → List Value}
theorem s1_nil (h : S1 M A Rr Yy c (K .next) fs s) : S1 M A Rr Yy c ((execs [] env).wrap K J gd lv) fs s := h
theorem s1_cons {st : Stmt} {rest : List Stmt} (h : S1 M A Rr Yy c ((exec st env).wrap (fun f => match f with | .next => (execs rest env).wrap K J gd lv | f => K f) J gd lv) fs s) :
    S1 M A Rr Yy c ((execs (st :: rest) env).wrap K J gd lv) fs s := by rw [execs_cons_wrap]; exact h
end
section
variable {prog : Program} {w : World} {A : Around} {Rr : RP} {Yy : YP} {fs : List Frame} {s : Shared} {env : Env}
theorem s1_func {body : List Stmt}
    (h : S1 (model prog w) A Rr Yy (.func body env) ((execs body env).wrap (fun f => .pure (.done (.ret (match f with | .ret v => v | _ => .none)))) (fun e => (leaving env e).wrap (fun _ => .raise e) .raise id id) id id) fs s) :
    S1 (model prog w) A Rr Yy (.func body env) ((model prog w).den (.func body env)) fs s := by
  show S1 _ A Rr Yy _ (.point [] fun _ => ((execs body env).onRaise (leaving env)) >>= _) fs s
  refine s1_point ?_
  rw [Sem.onRaise_eq_wrap, Sem.bind_eq_wrap', Sem.wrap_wrap]
  refine Eq.mp (congrArg (fun t => S1 _ A Rr Yy _ t fs s) (Sem.wrap_congr (execs body env) _ _ (fun f => ?_) fun e => ?_)) h
  · cases f <;> rfl
  · rw [Sem.bind_eq_wrap, Sem.wrap_wrap]; rfl
end
end GX

/-! ### a generator's statements: between two yields its caller may change what is the caller's -/
namespace GX
open PySem PySem.Spec PyProof.Rows L2 GenW
open DL (Ex)
/-- the objects ahead of L alone -/
def cut (L : Nat) (h : Heap) : Heap := ⟨h.objs.extract 0 L, h.life⟩
theorem cut_size {L : Nat} {h : Heap} (hl : L ≤ h.objs.size) : (cut L h).objs.size = L := by
  show (h.objs.extract 0 L).size = L
  simp; omega
theorem cut_le {L : Nat} {h : Heap} : (cut L h).objs.size ≤ L := by
  show (h.objs.extract 0 L).size ≤ L
  rw [Array.size_extract]; omega
theorem cut_get {L : Nat} {h : Heap} {b : Nat} (hb : b < L) : (cut L h).get? b = h.get? b := by
  have : (h.objs.extract 0 L)[b]? = h.objs[b]? := by
    rw [Array.getElem?_extract]
    by_cases hs : b < h.objs.size
    · rw [if_pos (by omega), Nat.zero_add]
    · rw [if_neg (by omega), Array.getElem?_eq_none (by omega)]
  unfold Heap.get? cut
  simp only [this]
theorem cut_some {L : Nat} {h : Heap} {b : Addr} {o : Obj} (e : (cut L h).get? b = some o) : b < L ∧ h.get? b = some o := by
  have h1 : b < L := Nat.lt_of_lt_of_le (Heap.lt_size e) cut_le
  exact ⟨h1, by rw [← cut_get h1]; exact e⟩
def cutH (L : Nat) (H : Hp) : Hp := fun b => if b < L then H b else none
theorem cutH_lt {L : Nat} {H : Hp} {b : Addr} (h : b < L) : cutH L H b = H b := if_pos h
theorem cutH_some {L : Nat} {H : Hp} {b : Addr} {o : HO} (h : cutH L H b = some o) : b < L ∧ H b = some o := by
  unfold cutH at h
  split at h
  · exact ⟨by assumption, h⟩
  · cases h
/-- a generator's run: all that is fixed through it -/
structure Fm where
  P : Program
  w : World
  K : PySem.W.Frag
  mg : Str → Option Value
  base : Heap
  N : List Str
  qual : Str
  scope : Scope
  f : Addr
  cd : Value
  A : Around
  outer : List PySem.Env
  E : XK
  pn : List (Addr × Obj)
  L : Nat
abbrev Fm.s0 (Φ : Fm) (s : Shared) : Shared := { s with heap := cut Φ.L s.heap }
/-- its context, since it was woken with s, H -/
abbrev Fm.X (Φ : Fm) (s : Shared) (H : Hp) : Cx := gcxOf Φ.P Φ.w Φ.K Φ.mg Φ.base Φ.N Φ.qual Φ.scope Φ.f Φ.cd Φ.A Φ.outer (Φ.s0 s) (cutH Φ.L H) Φ.E Φ.pn
def Fm.e0 (Φ : Fm) : PySem.Env := envOfC Φ.qual Φ.scope Φ.L Φ.f Φ.cd
def Fm.A0 (Φ : Fm) : Around := Φ.A.deeper Φ.e0
section
variable {Φ : Fm} {s s' : Shared} {H H' : Hp}
theorem Fm.env (h : Φ.L ≤ s.heap.objs.size) : (Φ.X s H).env = Φ.e0 := by
  show envOfC Φ.qual Φ.scope (cut Φ.L s.heap).objs.size Φ.f Φ.cd = _
  rw [cut_size h]; rfl
theorem Fm.ar (h : Φ.L ≤ s.heap.objs.size) : (Φ.X s H).A = Φ.A0 := by
  show Φ.A.deeper (envOfC Φ.qual Φ.scope (cut Φ.L s.heap).objs.size Φ.f Φ.cd) = _
  rw [cut_size h]; rfl
/-- since it was woken with s₀, H₀ -/
def Fm.I (Φ : Fm) (s₀ : Shared) (H₀ : Hp) (ip : List (Addr × Obj)) (σ : L2.St) (H : Hp) (s : Shared) : Prop :=
  Φ.L ≤ s₀.heap.objs.size ∧ (∀ p ∈ Φ.pn ++ ip, Φ.L ≤ p.1) ∧ Inv (Φ.X s₀ H₀) ip σ H s
/-- its own things: its frame, its cells, its iterators -/
def Fm.Own (Φ : Fm) (ip : List (Addr × Obj)) (b : Addr) : Prop := b = Φ.L ∨ (∃ x, Φ.e0.cells.lookup x = some b) ∨ ∃ p ∈ Φ.pn ++ ip, p.1 = b
/-- what its caller leaves as it is while it sleeps -/
structure Wake (Φ : Fm) (ip : List (Addr × Obj)) (s s' : Shared) (H' : Hp) : Prop where
  env : Env0 Φ.P Φ.w Φ.K Φ.mg Φ.base Φ.A Φ.outer s' H'
  keep : ∀ b o, Φ.L ≤ b → Φ.Own ip b → s.heap.get? b = some o → s'.heap.get? b = some o ∧ H' b = none
theorem funs_cut {n : Nat} {h base : Heap} : ∀ {l : List PySem.Env}, h.FunFrames base l → (∀ b ∈ frs l, b < n) → (cut n h).FunFrames base l
  | [], _, _ => trivial
  | env :: r, hl, hb => by
    obtain ⟨hk, ⟨L, o, hf, hn, ho, hd⟩, hr⟩ := hl
    have h1 : frs (env :: r) = L :: frs r := by unfold frs; rw [List.filterMap_cons, hf]
    exact ⟨hk, ⟨L, o, hf, hn, by rw [cut_get (hb L (by rw [h1]; simp))]; exact ho, hd⟩, funs_cut hr fun b hb' => hb b (by rw [h1]; simp [hb'])⟩
/-- woken anew -/
theorem rebase {s₀ : Shared} {H₀ : Hp} {ip : List (Addr × Obj)} {σ : L2.St} (h : Φ.I s₀ H₀ ip σ H s) (w : Wake Φ ip s s' H') : Φ.I s' H' ip σ H' s' := by
  obtain ⟨hl, hp, I⟩ := h
  have e1 : (Φ.X s₀ H₀).env = Φ.e0 := Fm.env hl
  have eL : (Φ.X s₀ H₀).env.locals = Φ.L := by rw [e1]; rfl
  have hLs : Φ.L ≤ s'.heap.objs.size := by
    obtain ⟨m, ⟨o, _, _, ho, _⟩, _⟩ := I.loc
    rw [eL] at ho
    exact Nat.le_of_lt (Heap.lt_size (w.keep Φ.L o (Nat.le_refl _) (.inl rfl) ho).1)
  have e2 : (Φ.X s' H').env = Φ.e0 := Fm.env hLs
  have cellL : ∀ x c, Φ.e0.cells.lookup x = some c → Φ.L ≤ c := fun x c e => by
    have := I.ok.cab x c rfl (by rw [e1]; exact e)
    have h2 : (Φ.X s₀ H₀).s_0.heap.objs.size = Φ.L := cut_size hl
    rw [h2] at this; exact this
  have fsL : ∀ b ∈ frs Φ.outer, b < Φ.L := fun b hb => by
    obtain ⟨_, o, ho, _⟩ := I.ok.funs.mem hb
    exact (cut_some ho).1
  have hL0 : ∀ o, s.heap.get? Φ.L = some o → s'.heap.get? Φ.L = some o ∧ H' Φ.L = none := fun o ho => w.keep _ o (Nat.le_refl _) (.inl rfl) ho
  refine ⟨hLs, hp, ⟨⟨w.env.mod, I.ok.kind, rfl, rfl, ?_, ?_, ?_, ?_, I.ok.hd, ?_, .inr ⟨rfl, rfl⟩, fun b z => (by cases z), fun b o e => ?_, ?_, fun b o e z => (by cases z), fun b z => (by cases z), ?_, fun b hb => ?_⟩, rfl, w.env.bare, ?_, ?_, ?_, ?_, ?_, ?_, w.env.hok, I.len⟩⟩
  · rw [e2]
    show (cut Φ.L s'.heap).objs.size ≤ Φ.L
    exact cut_le
  · rw [e2, ← e1]; exact I.ok.inj
  · intro x hx
    have := I.ok.has x (by rw [e1]; rw [e2] at hx; exact hx)
    rw [e2, ← e1]; exact this
  · intro x c _ e
    rw [e2] at e
    show (cut Φ.L s'.heap).objs.size ≤ c
    exact Nat.le_trans cut_le (cellL x c e)
  · rw [Fm.ar hLs, ← Fm.ar (s := s₀) (H := H₀) hl, show (Φ.X s' H').stack = (Φ.X s₀ H₀).stack from by show (Φ.X s' H').env :: _ = (Φ.X s₀ H₀).env :: _; rw [e1, e2]]
    exact I.ok.frames
  · obtain ⟨h1, h2⟩ := I.ok.bs b o e
    obtain ⟨h3, _⟩ := cut_some h1
    obtain ⟨h4, h5⟩ := w.env.bs b o e
    exact ⟨by show (cut Φ.L s'.heap).get? b = _; rw [cut_get h3]; exact h4, by show cutH Φ.L H' b = none; rw [cutH_lt h3]; exact h5⟩
  · have := I.ok.bsz
    have h2 : (Φ.X s₀ H₀).s_0.heap.objs.size = Φ.L := cut_size hl
    have h3 : (Φ.X s' H').s_0.heap.objs.size = Φ.L := cut_size hLs
    rw [h3, ← h2]; exact this
  · exact funs_cut w.env.funs fsL
  · show cutH Φ.L H' b = none
    rw [cutH_lt (fsL b hb)]
    exact w.env.frf b hb
  · refine ⟨fun b o e n _ _ => (cut_some e).2, fun b o e n _ _ => ⟨o.slots, (cut_some e).2⟩, fun b o e n _ => ?_, fun b o e _ => ⟨o, (cut_some e).2⟩, fun b xs e => (cutH_some e).2, fun b o u e => (cutH_some e).2, fun b ps e => ⟨#[], by rw [(cutH_some e).2]; simp⟩⟩
    have : cutH Φ.L H' b = none := n
    rw [cutH_lt (cut_some e).1] at this
    exact this
  · obtain ⟨m, ⟨o, es, ep, ho, r⟩, hl'⟩ := I.loc
    rw [eL] at ho
    rw [e2]
    refine ⟨m, ⟨o, es, ep, (hL0 o ho).1, r⟩, fun i x v q1 q2 q3 => ?_⟩
    obtain ⟨u, r1, l1⟩ := hl' i x v q1 q2 (by rw [e1]; exact q3)
    rw [e1] at l1
    refine ⟨u, r1, ?_⟩
    rcases l1 with l1 | ⟨k1, c, q4, q5⟩
    · exact .inl l1
    · obtain ⟨o2, q6, q7⟩ := q5
      exact .inr ⟨k1, c, q4, o2, (w.keep c o2 (cellL x c q4) (.inr (.inl ⟨x, q4⟩)) q6).1, q7⟩
  · intro x c e
    rw [e2] at e
    obtain ⟨v, o2, q6, q7⟩ := I.cell x c (by rw [e1]; exact e)
    exact ⟨v, o2, (w.keep c o2 (cellL x c e) (.inr (.inl ⟨x, e⟩)) q6).1, q7⟩
  · obtain ⟨m, ⟨o, es, ep, ho, r⟩, _⟩ := I.loc
    rw [eL] at ho
    rw [e2]
    exact (hL0 o ho).2
  · intro x c e
    rw [e2] at e
    obtain ⟨v, o2, q6, q7⟩ := I.cell x c (by rw [e1]; exact e)
    exact (w.keep c o2 (cellL x c e) (.inr (.inl ⟨x, e⟩)) q6).2
  · intro q hq
    obtain ⟨q1, q2, q3, q4, q5⟩ := I.pin q hq
    obtain ⟨q6, q7⟩ := w.keep q.1 q.2 (hp q hq) (.inr (.inr ⟨q, hq, rfl⟩)) q1
    exact ⟨q6, q7, by rw [e2]; rw [e1] at q3; exact q3, q4, q5⟩
end
/-! ### the brief -/
/-- tot: how many yields there may be (behind the last one it is not woken); yl: what each is; fin: the end. S₀, H₀: what stood for good and what was tracked when it was woken -/
structure Brf where
  tot : Nat
  yl : Hp → Hp → List V → V → Hp → Hp → Prop
  fin : Hp → Hp → List V → Hp → Prop
def RrP (Φ : Fm) (B : Brf) (ys : List V) (S₀ H₀ : Hp) (s₀ : Shared) : RP := fun r s1 =>
  ((r = .ok (.ret .none) ∨ r = .ok .next) ∧ ∃ ip σ H1, Φ.I s₀ H₀ ip σ H1 s1 ∧ B.fin S₀ H₀ ys H1) ∨
  ∃ e, r = .error e ∧ CX Φ.P Φ.w Φ.outer (cutH Φ.L H₀) (Φ.s0 s₀) Φ.E e s1 ∧ ∀ p ∈ Φ.pn, s1.heap.get? p.1 = some p.2
def GoesP (M : Model) (A : Around) (gs : GenState) (s : Shared) (Rr : RP) (Yy : YP) : Prop := match gs with
  | .fresh c => S1 M A Rr Yy c (M.den c) [] s
  | .suspended k _ c _ fs _ => S1 M A Rr Yy c (k (.send .none)) fs s
  | _ => False
/-- asleep behind ys, to be woken up to n times -/
def Rsm (Φ : Fm) (B : Brf) : Nat → GenState → List V → List (Addr × Obj) → Hp → Shared → Prop
  | 0, _, _, _, _, _ => True
  | n + 1, gs, ys, ip, S, s => ∀ s' S' H', Ex S S' → Ex S' H' → Wake Φ ip s s' H' → GoesP (model Φ.P Φ.w) Φ.A gs s' (RrP Φ B ys S' H' s') fun v s2 gs2 =>
      ∃ x ip2 σ2 S2 H2, RelV x v ∧ Φ.I s' H' ip2 σ2 H2 s2 ∧ B.yl S' H' ys x S2 H2 ∧ Ex S2 H2 ∧ Rsm Φ B n gs2 (ys ++ [x]) ip2 S2 s2
def YPn (Φ : Fm) (B : Brf) (n : Nat) (ys : List V) (S₀ H₀ : Hp) (s₀ : Shared) : YP := fun v s2 gs2 =>
  ∃ x ip2 σ2 S2 H2, RelV x v ∧ Φ.I s₀ H₀ ip2 σ2 H2 s2 ∧ B.yl S₀ H₀ ys x S2 H2 ∧ Ex S2 H2 ∧ Rsm Φ B (n - 1) gs2 (ys ++ [x]) ip2 S2 s2
/-- what is wanted behind a statement -/
structure GEn where
  nx : Hp → Hp → List V → L2.St → Hp → Prop
  rt : Hp → Hp → List V → V → Hp → Prop
  bk : Hp → Hp → List V → L2.St → Hp → Prop := fun _ _ _ _ _ => False
  ct : Hp → Hp → List V → L2.St → Hp → Prop := fun _ _ _ _ _ => False
def GEn.at (D : GEn) (S₀ H₀ : Hp) (ys : List V) : Ends := { nx := D.nx S₀ H₀ ys, rt := D.rt S₀ H₀ ys, bk := D.bk S₀ H₀ ys, ct := D.ct S₀ H₀ ys }
abbrev TGn := GEn → Hp → Hp → List V → L2.St → Hp → Prop
def GSP (Φ : Fm) (S₀ H₀ : Hp) (s₀ : Shared) (ip : List (Addr × Obj)) (D : GEn) (ys : List V) (fl : Flow) (s : Shared) : Prop := match fl with
  | .next => ∃ σ H, Φ.I s₀ H₀ ip σ H s ∧ D.nx S₀ H₀ ys σ H
  | .brk => ∃ σ H, Φ.I s₀ H₀ ip σ H s ∧ D.bk S₀ H₀ ys σ H
  | .cont => ∃ σ H, Φ.I s₀ H₀ ip σ H s ∧ D.ct S₀ H₀ ys σ H
  | .ret u => ∃ v σ H, Φ.I s₀ H₀ ip σ H s ∧ RelV v u ∧ D.rt S₀ H₀ ys v H
structure GC (Φ : Fm) (c : Code) (fs : List Frame) (gd : Bool → Bool) : Prop where
  over : Φ.A.over c fs = Φ.A0
  split : splitAtGen fs = none
  guard : fs.any Frame.guarded = false
  gd : gd false = false
structure GK (Φ : Fm) (B : Brf) (ip : List (Addr × Obj)) (c : Code) (fs : List Frame) (K : Flow → Sem PySem.Fin) (J : Value → Sem PySem.Fin) (D : GEn) : Prop where
  ok : ∀ (n : Nat) (ys : List V) (S₀ H₀ : Hp) (s₀ s : Shared) (fl : Flow), n + ys.length = B.tot → GSP Φ S₀ H₀ s₀ ip D ys fl s → S1 (model Φ.P Φ.w) Φ.A (RrP Φ B ys S₀ H₀ s₀) (YPn Φ B n ys S₀ H₀ s₀) c (K fl) fs s
  exc : ∀ (n : Nat) (ys : List V) (S₀ H₀ : Hp) (s₀ s : Shared) (e : Value), Φ.L ≤ s₀.heap.objs.size → (Φ.X s₀ H₀).xe e s → S1 (model Φ.P Φ.w) Φ.A (RrP Φ B ys S₀ H₀ s₀) (YPn Φ B n ys S₀ H₀ s₀) c (J e) fs s
structure GS (Φ : Fm) (B : Brf) (st : Stmt) (t : TGn) : Prop where
  run : ∀ (n : Nat) (ys : List V) (S₀ H₀ : Hp) (s₀ : Shared) (ip : List (Addr × Obj)) (c : Code) (fs : List Frame) (K : Flow → Sem PySem.Fin) (J : Value → Sem PySem.Fin) (gd : Bool → Bool) (lv : List Value → List Value) (s : Shared) (σ : L2.St) (H : Hp) (D : GEn),
    GC Φ c fs gd → n + ys.length = B.tot → GK Φ B ip c fs K J D → Φ.I s₀ H₀ ip σ H s → t D S₀ H₀ ys σ H →
    S1 (model Φ.P Φ.w) Φ.A (RrP Φ B ys S₀ H₀ s₀) (YPn Φ B n ys S₀ H₀ s₀) c ((exec st Φ.e0).wrap K J gd lv) fs s
structure GSs (Φ : Fm) (B : Brf) (st : List Stmt) (t : TGn) : Prop where
  run : ∀ (n : Nat) (ys : List V) (S₀ H₀ : Hp) (s₀ : Shared) (ip : List (Addr × Obj)) (c : Code) (fs : List Frame) (K : Flow → Sem PySem.Fin) (J : Value → Sem PySem.Fin) (gd : Bool → Bool) (lv : List Value → List Value) (s : Shared) (σ : L2.St) (H : Hp) (D : GEn),
    GC Φ c fs gd → n + ys.length = B.tot → GK Φ B ip c fs K J D → Φ.I s₀ H₀ ip σ H s → t D S₀ H₀ ys σ H →
    S1 (model Φ.P Φ.w) Φ.A (RrP Φ B ys S₀ H₀ s₀) (YPn Φ B n ys S₀ H₀ s₀) c ((execs st Φ.e0).wrap K J gd lv) fs s
section
variable {Φ : Fm} {B : Brf} {st : Stmt} {rest : List Stmt}
def tNil : TGn := fun D S₀ H₀ ys σ H => D.nx S₀ H₀ ys σ H
theorem gss_nil : GSs Φ B [] tNil :=
  ⟨fun n ys S₀ H₀ s₀ ip c fs K J gd lv s σ H D g hn k I ht => s1_nil (k.ok n ys S₀ H₀ s₀ s .next hn ⟨σ, H, I, ht⟩)⟩
def tThen (t u : TGn) : TGn := fun D => t { D with nx := fun S₀ H₀ ys σ H => u D S₀ H₀ ys σ H }
theorem gss_cons {t u : TGn} (a : GS Φ B st t) (b : GSs Φ B rest u) : GSs Φ B (st :: rest) (tThen t u) := by
  refine ⟨fun n ys S₀ H₀ s₀ ip c fs K J gd lv s σ H D g hn k I ht => s1_cons (a.run n ys S₀ H₀ s₀ ip c fs _ J gd lv s σ H _ g hn ⟨fun n' ys' S' H' s' s1 fl hn' hs => ?_, k.exc⟩ I ht)⟩
  cases fl with
  | next =>
    obtain ⟨σ1, H1, I1, q⟩ := hs
    exact b.run n' ys' S' H' s' ip c fs K J gd lv s1 σ1 H1 D g hn' k I1 q
  | brk => exact k.ok n' ys' S' H' s' s1 .brk hn' hs
  | cont => exact k.ok n' ys' S' H' s' s1 .cont hn' hs
  | ret u => exact k.ok n' ys' S' H' s' s1 (.ret u) hn' hs
/-- weaker wishes -/
theorem GSs.imp {t u : TGn} (h : GSs Φ B rest t) (q : ∀ D S₀ H₀ ys σ H, u D S₀ H₀ ys σ H → t D S₀ H₀ ys σ H) : GSs Φ B rest u :=
  ⟨fun n ys S₀ H₀ s₀ ip c fs K J gd lv s σ H D g hn k I ht => h.run n ys S₀ H₀ s₀ ip c fs K J gd lv s σ H D g hn k I (q _ _ _ _ _ _ ht)⟩
theorem GS.imp {t u : TGn} (h : GS Φ B st t) (q : ∀ D S₀ H₀ ys σ H, u D S₀ H₀ ys σ H → t D S₀ H₀ ys σ H) : GS Φ B st u :=
  ⟨fun n ys S₀ H₀ s₀ ip c fs K J gd lv s σ H D g hn k I ht => h.run n ys S₀ H₀ s₀ ip c fs K J gd lv s σ H D g hn k I (q _ _ _ _ _ _ ht)⟩
/-! yield -/
/-! loops -/
end
end GX

/-! ### a generator is made, is woken -/
namespace GX
open PySem PySem.Spec PyProof.Rows L2 GenW
open DL (Ex)
theorem goes_end {M : Model} {A : Around} {gs : GenState} {s : Shared} {Rr : RP} {Yy : YP} (h : GoesP M A gs s Rr Yy) (Γ : PySem.Ctx) (p : Pos) (hΓ : Γ.In A) :
    ∃ c q t fs e s1, (gs = .fresh c ∧ t = M.den c ∧ fs = [] ∧ q = p ∨ ∃ k l cl, gs = .suspended k l c q fs cl ∧ t = k (.send .none)) ∧ Runs M (Γ.wake c p) q t fs s e s1 ∧ PEnd Rr Yy e s1 := by
  cases gs with
  | fresh c =>
    obtain ⟨e, s1, a, b⟩ := (show S1 M A Rr Yy c (M.den c) [] s from h) (Γ.wake c p) p rfl (hΓ.wake c p)
    exact ⟨c, p, _, _, e, s1, .inl ⟨rfl, rfl, rfl, rfl⟩, a, b⟩
  | suspended k l c q fs cl =>
    obtain ⟨e, s1, a, b⟩ := (show S1 M A Rr Yy c (k (.send .none)) fs s from h) (Γ.wake c p) q rfl (hΓ.wake c p)
    exact ⟨c, q, _, _, e, s1, .inr ⟨k, l, cl, rfl, rfl⟩, a, b⟩
  | running => exact h.elim
  | finished => exact h.elim
theorem wpAny_wake {M : Model} {A : Around} {s : Shared} {g : Nat} {gs : GenState} {Rr : RP} {Yy : YP} {l : List Value} {α : Type} {k : GenResult → Sem α} {Q : α → Shared → Prop} {E : Value → Shared → Prop} (hg : s.gens[g]? = some gs)
    (h : GoesP M A gs (s.setGen g .running) Rr Yy) (hR : ∀ r s1, Rr r s1 → wpAny M A (k (End.ret r).result) Q E (s1.setGen g .finished))
    (hY : ∀ v s1 gs', isSusp gs' = true → gs'.bare = true → Yy v s1 gs' → wpAny M A (k (.yielded v)) Q E (s1.setGen g gs')) : wpAny M A (.resume g (.send .none) l k) Q E s := by
  intro Γ p hΓ
  rw [Sem.wp_resume]
  obtain ⟨c, q, t, fs, e, s1, hs, hr, he⟩ := goes_end h Γ p hΓ
  have hq : e.quiet = true := by
    cases e with
    | ret r => rfl
    | susp v g0 l0 k0 c0 p0 f0 => exact he.1
  refine ⟨e.result, s1.setGen g e.genState, ?_, ?_⟩
  · unfold Wakes
    rw [hg]
    rcases hs with ⟨rfl, rfl, rfl, rfl⟩ | ⟨k0, l0, cl, rfl, rfl⟩
    · exact ⟨e, s1, hr, hq, rfl, rfl⟩
    · exact ⟨e, s1, hr, hq, rfl, rfl⟩
  · cases e with
    | ret r => exact hR r s1 he Γ p hΓ
    | susp v g0 l0 k0 c0 p0 f0 => exact hY v s1 _ rfl (End.bare_of_quiet he.1) he.2 Γ p hΓ
section
variable {P : Program} {w : World} {A : Around} {E : Value → Shared → Prop} {s : Shared}
/-- next(g): an item, the end, an exception of its own -/
theorem next_g {a : Addr} {g : Nat} {gs : GenState} {Rr : RP} {Yy : YP} {Q : Option Value → Shared → Prop} (hh : A.handled = none) (hl : s.heap.NoLimit) (hroom : A.depth < recursionLimit) (hg : s.heap.IsGen a g) (hgs : s.gens[g]? = some gs)
    (hgo : GoesP (model P w) A.in1 gs (s.setGen g .running) Rr Yy)
    (hY : ∀ v s1 gs', isSusp gs' = true → gs'.bare = true → Yy v s1 gs' → Q (some v) (s1.setGen g gs'))
    (hR : ∀ r s1, Rr r s1 → ((r = .ok (.ret .none) ∨ r = .ok .next) ∧ ∀ h', (∀ b o, s1.heap.get? b = some o → h'.get? b = some o) → Q none { s1.setGen g .finished with heap := h' }) ∨
      ∃ e, r = .error e ∧ s1.heap.IsGen a g ∧ NotStop (model P w) e s1.heap ∧ E e (s1.setGen g .finished)) : wpAny (model P w) A (pyNext (.ref a)) Q E s := by
  unfold pyNext
  refine wpAny_bind (wpAny_attempt ?_)
  refine wpAny_callSpecial?_slot (name := Str.ofString "__next__") hg.typeIs slot_gen_next ?_
  refine wpAny_call_entry slot_gen_next hg.typeIs entry_gen_next ?_ (args_gen_next _)
  show wpAny _ A.in1 (Builtin.Generator.genWake (.ref a) (.send .none)) _ _ s
  unfold Builtin.Generator.genWake
  refine wpAny_bind (wpAny_holding ?_)
  refine wpAny_genNumber hg ?_
  refine wpAny_bind (wpAny_genState hgs ?_)
  cases gs with
  | running => exact hgo.elim
  | finished => exact hgo.elim
  | _ =>
  refine wpAny_bind (wpAny_roomToWake hl hroom ?_); show wpAny _ A.in1 (.resume g (.send .none) [] _) _ _ s
  refine wpAny_wake hgs hgo (fun r s1 hr => ?_) (fun v s1 gs' h1 h2 h3 => wpAny_pure ⟨v, rfl, wpAny_pure (hY v s1 gs' h1 h2 h3)⟩)
  · rcases hR r s1 hr with ⟨hr2, hp⟩ | ⟨e, rfl, hg1, hns, hq⟩
    · have hres : End.result (.ret r) = .returned .none := by rcases hr2 with z | z <;> rw [z] <;> rfl
      simp only [hres]
      show wpAny _ A.in1 (newExc (.type "StopIteration") [] >>= _) _ _ _
      refine wpAny_bind ?_
      simp only [newExc, newTuple]
      refine wpAny_bind (wpAny_newObj_type ?_ (by size_fits)); refine wpAny_bind (m := firstArgMember _ _) (wpAny_of_eq (a := Value.none) (by first | rfl | (simp only [firstArgMember]; rfl)) ?_)
      refine wpAny_newObj_type ?_ (by size_fits); simp only [raiseNew]
      refine wpAny_bind (wpAny_bind (wpAny_handled ?_))
      rw [show A.in1.handled = none from hh]
      refine wpAny_throw ?_
      refine wpAny_bind (wpAny_isInstance (T := "StopIteration") (b := true) ⟨_, Heap.get?_push_size _ rfl, rfl⟩ isSubtype_stop ?_); exact wpAny_pure (hp _ fun b o hb => Heap.get?_push_of_some _ (Heap.get?_push_of_some _ hb))
    · obtain ⟨o, nm, qn, ho, hc, hd, hsl⟩ := hg1
      show wpAny _ A.in1 (Builtin.Generator.genLeft (.ref a) e) _ _ _
      unfold Builtin.Generator.genLeft Builtin.Generator.madeByALambda
      refine wpAny_bind (wpAny_bind (wpAny_load (o := o) ho (wpAny_pure ?_))); refine wpAny_bind (hns _ _ _ _ rfl ?_)
      rw [Bool.and_false, if_neg Bool.false_ne_true]
      unfold Builtin.Generator.genEscaped
      first
        | refine wpAny_bind (hns _ _ _ _ rfl ?_)
        | refine wpAny_bind (wpAny_pure (wpAny_bind (hns _ _ _ _ rfl ?_)))
      rw [if_pos (show (!false) = true from rfl)]
      first
        | refine wpAny_throw ?_
        | refine wpAny_bind (wpAny_throw ?_)
      refine wpAny_bind (hns _ _ _ _ rfl ?_); rw [if_neg Bool.false_ne_true]
      exact wpAny_throw hq
end
end GX

/-! ### a generator def's body, by data: o is what was handed out -/
namespace GX
open PySem PySem.Spec PyProof.Rows L2 GenW
open DL (Ex Rel Rp RpAll Rv RvAll D VD OD KnOk Kn SD SDs ED TD GD ItD tS tE tT tG tI Grow Step)
abbrev DEnv := DL.Env
/-- all that it hands out is outs; done: behind it it ends (else it is woken no more) -/
def Br (K : PySem.W.Frag) (outs : List D) (done : Bool) : Brf where
  tot := outs.length + done.toNat
  yl := fun S₀ H₀ ys x S H => Grow [] S₀ H₀ S H ∧ ∃ d, outs[ys.length]? = some d ∧ Rp K S x d
  fin := fun S₀ H₀ ys H => done = true ∧ ys.length = outs.length ∧ ∃ S, Grow [] S₀ H₀ S H
structure Kg where
  nx : List D → DEnv → Prop
  bk : List D → DEnv → Prop := fun _ _ => False
  ct : List D → DEnv → Prop := fun _ _ => False
structure KgOk (K : PySem.W.Frag) (Sb : Hp) (k : Kg) (Dn : GEn) : Prop where
  nx : ∀ o ρ S₀ H₀ ys σ S H, k.nx o ρ → Ex Sb S → o.length = ys.length → Rel K ⟨[], S₀, H₀⟩ ρ σ S H [] → Dn.nx S₀ H₀ ys σ H
  bk : ∀ o ρ S₀ H₀ ys σ S H, k.bk o ρ → Ex Sb S → o.length = ys.length → Rel K ⟨[], S₀, H₀⟩ ρ σ S H [] → Dn.bk S₀ H₀ ys σ H
  ct : ∀ o ρ S₀ H₀ ys σ S H, k.ct o ρ → Ex Sb S → o.length = ys.length → Rel K ⟨[], S₀, H₀⟩ ρ σ S H [] → Dn.ct S₀ H₀ ys σ H
def tK (K : PySem.W.Frag) (o : List D) (ρ : DEnv) (k : Kg) : TGn := fun Dn S₀ H₀ ys σ H => ∃ Sb S, Ex Sb S ∧ o.length = ys.length ∧ Rel K ⟨[], S₀, H₀⟩ ρ σ S H [] ∧ KgOk K Sb k Dn
def GDo (Φ : Fm) (B : Brf) (o : List D) (ρ : DEnv) (st : Stmt) (k : Kg) : Prop := GS Φ B st (tK Φ.K o ρ k)
def GDs (Φ : Fm) (B : Brf) (o : List D) (ρ : DEnv) (sts : List Stmt) (k : Kg) : Prop := GSs Φ B sts (tK Φ.K o ρ k)
section
variable {Φ : Fm} {B : Brf} {st : Stmt} {l r rest body : List Stmt} {o : List D} {ρ ρ1 : DEnv} {k : Kg} {pos yp : Pos} {e c tg iter : Expr} {d : D} {outs ds : List D} {done p : Bool}
theorem gss_any {P : List D → DEnv → Kg → Prop} (h : ∀ o ρ k, P o ρ k → GDs Φ B o ρ r k) : GSs Φ B r (fun Dn S₀ H₀ ys σ H => ∃ o ρ k, P o ρ k ∧ tK Φ.K o ρ k Dn S₀ H₀ ys σ H) :=
  ⟨fun n ys S₀ H₀ s₀ ip c fs K J gd lv s σ H D g hn k I ⟨o, ρ, k', hp, ht⟩ => (h o ρ k' hp).run n ys S₀ H₀ s₀ ip c fs K J gd lv s σ H D g hn k I ht⟩
theorem gds_nil (h : k.nx o ρ) : GDs Φ B o ρ [] k := gss_nil.imp fun Dn S₀ H₀ ys σ H ⟨Sb, S, eb, ho, R, kk⟩ => kk.nx o ρ S₀ H₀ ys σ S H h eb ho R
theorem gds_cons (h : GDo Φ B o ρ st { k with nx := fun o' ρ' => GDs Φ B o' ρ' r k }) : GDs Φ B o ρ (st :: r) k :=
  (gss_cons h (gss_any (P := fun o' ρ' k' => GDs Φ B o' ρ' r k' ∧ k' = k) fun _ _ _ h => h.1)).imp fun Dn S₀ H₀ ys σ H ⟨Sb, S, eb, ho, R, kk⟩ =>
    ⟨Sb, S, eb, ho, R, fun o' ρ' S₀' H₀' ys' σ' S' H' hn eb' ho' R' => ⟨o', ρ', k, ⟨hn, rfl⟩, Sb, S', eb', ho', R', kk⟩, kk.bk, kk.ct⟩
/-- woken: the entry is now -/
theorem Rel.wake {K : PySem.W.Frag} {fr : DL.Fr} {σ : L2.St} {S H S' H' : Hp} (R : Rel K fr ρ σ S H []) (e : Ex S S') (h : Ex S' H') : Rel K ⟨[], S', H'⟩ ρ σ S' H' [] := by
  have hm : ρ.m = 0 := by
    rcases Nat.eq_zero_or_pos ρ.m with z | z
    · exact z
    · obtain ⟨o, e⟩ := R.ml 0 z
      obtain ⟨l, ho, e1, _⟩ := R.own 0 o e
      simp at e1
  refine ⟨⟨.refl _, h, fun a o e _ => e, fun a e _ _ => e⟩, fun i x q => ?_, fun n o q => ?_, ⟨by simp [hm], by simp⟩, R.nd, R.len, R.al, R.ml, fun l hl => by simp at hl⟩
  · obtain ⟨v, e1, e2⟩ := R.slots i x q
    exact ⟨v, e1, e2.mono ⟨e, [], rfl⟩⟩
  · obtain ⟨l, ho, e1, _⟩ := R.own n o q
    simp at e1
theorem PI.nox {X : Cx} {wi : TI} (h : PI X.nox tg iter wi) : PI X tg iter wi := ⟨fun pins s σ H R I hw => by
  refine wpAny_mono (h.run pins s σ H R (I.wish _) hw) (fun v s1 h1 => ?_) fun _ _ z => False.elim z
  refine wpAny_mono h1 (fun u s2 h2 => ?_) fun _ _ z => False.elim z
  obtain ⟨it, fp, tn, Jt, H2, e, I2, T, st2, f2, q⟩ := h2
  exact ⟨it, fp, tn, Jt, H2, e, I2.unwish, T, st2, f2, q⟩⟩
theorem PG.nox {X : Cx} {t : TG} (h : PG X.nox tg t) : PG X tg t := ⟨fun pins s σ H v u Q I rv hw =>
  wpAny_mono (h.run pins s σ H v u Q (I.wish _) rv hw) (fun _ _ ⟨σ', H', I', q⟩ => ⟨σ', H', I'.unwish, q⟩) fun _ _ z => False.elim z⟩
end
end GX

/-! ### a generator def is called -/
namespace GX
open PySem PySem.Spec PyProof.Rows L2 GenW
open DL (Ex Rel Rp RpAll Rv RvAll D VD OD KnOk Kn SD SDs ED TD GD ItD tS tE tT tG tI Grow Step env0)
theorem rsm_start {Φ : Fm} {outs : List D} {done : Bool} {body : List Stmt} {ρ : DEnv} {s₀ s1 : Shared} {H₀ S H : Hp} {σ : L2.St} (hb : 0 < outs.length + done.toNat → GDs Φ (Br Φ.K outs done) [] ρ body { nx := fun o _ => done = true ∧ o.length = outs.length }) (I : Φ.I s₀ H₀ [] σ H s1)
    (R : Rel Φ.K ⟨[], S, H⟩ ρ σ S H []) : Rsm Φ (Br Φ.K outs done) (Br Φ.K outs done).tot (.fresh (.func body Φ.e0)) [] [] S s1 := by
  have key : ∀ n, n = (Br Φ.K outs done).tot → Rsm Φ (Br Φ.K outs done) n (.fresh (.func body Φ.e0)) [] [] S s1 := fun n hn => by
    cases n with
    | zero => exact trivial
    | succ m =>
      intro s' S' H' e1 e2 wk
      have I' := rebase I wk
      have hl := I'.1
      refine s1_func ?_
      refine (hb (by have : m + 1 = outs.length + done.toNat := hn; omega)).run (m + 1) [] S' H' s' [] (.func body Φ.e0) [] _ _ id id s' σ H' { nx := fun S₀ H₀ ys σ H => (Br Φ.K outs done).fin S₀ H₀ ys H, rt := fun _ _ _ _ _ => False } ⟨over_func, rfl, rfl, rfl⟩ hn ⟨fun n ys S₀ H₀ s₀ s fl hn hs => ?_, fun n ys S₀ H₀ s₀ s e hl0 hx => ?_⟩ I'
        ⟨S, S', e1, rfl, Rel.wake R e1 e2, fun o ρ S₀ H₀ ys σ S H h eb ho R => ⟨h.1, ho.symm.trans h.2, S, R.grow⟩, fun _ _ _ _ _ _ _ _ h => h.elim, fun _ _ _ _ _ _ _ _ h => h.elim⟩
      · cases fl with
        | next =>
          obtain ⟨σ2, H2, I2, q⟩ := hs
          exact s1_end (.ok (.ret .none)) (.inl ⟨.inl rfl, [], σ2, H2, I2, q⟩)
        | brk => obtain ⟨_, _, _, q⟩ := hs; exact False.elim q
        | cont => obtain ⟨_, _, _, q⟩ := hs; exact False.elim q
        | ret u => obtain ⟨_, _, _, _, _, q⟩ := hs; exact False.elim q
      · refine s1_wrap ?_
        rw [show Φ.A.over (.func body Φ.e0) [] = Φ.A.deeper Φ.e0 from over_func]
        have hx2 : wpAny (model Φ.P Φ.w) (Φ.A.deeper Φ.e0) (leaving Φ.e0 e) (fun _ s'' => CX Φ.P Φ.w Φ.outer (cutH Φ.L H₀) (Φ.s0 s₀) Φ.E e s'' ∧ ∀ p ∈ Φ.pn, s''.heap.get? p.1 = some p.2) (fun _ _ => False) s := by
          have e1 : (Φ.X s₀ H₀).env = Φ.e0 := Fm.env hl0
          have hx : wpAny (model Φ.P Φ.w) (Φ.A.deeper (Φ.X s₀ H₀).env) (leaving (Φ.X s₀ H₀).env e) (fun _ s'' => CX Φ.P Φ.w Φ.outer (cutH Φ.L H₀) (Φ.s0 s₀) Φ.E e s'' ∧ ∀ p ∈ Φ.pn, s''.heap.get? p.1 = some p.2) (fun _ _ => False) s := hx
          rw [e1] at hx
          exact hx
        exact wpAny_mono hx2 (fun _ s'' q => s1_end (.error e) (.inr ⟨e, rfl, q⟩)) fun _ s'' q => q.elim
  exact key _ rfl
/-- a generator def's promise: its arguments, all that it hands out, whether it ends behind that -/
abbrev GSpec := List D → List D → Bool → Prop
/-- a new generator -/
def GMk (P : Program) (w : World) (K : PySem.W.Frag) (mg : Str → Option Value) (base : Heap) (k : Nat) (outer : List PySem.Env) (S : Hp) (L : Nat) (outs : List D) (done : Bool) (u : Value) (s' : Shared) : Prop :=
  ∃ (a : Addr) (g : Nat) (body : List Stmt) (N : List Str) (qual : Str) (scope : Scope) (f : Addr) (cd : Value) (go : Obj),
    u = .ref a ∧ L < a ∧ s'.heap.get? a = some go ∧ (∀ h : Heap, h.get? a = some go → h.IsGen a g) ∧ s'.gens[g]? = some (.fresh (.func body (envOfC qual scope L f cd))) ∧
    (∃ o, s'.heap.get? L = some o) ∧ (∀ x c, (envOfC qual scope L f cd).cells.lookup x = some c → L ≤ c ∧ ∃ o, s'.heap.get? c = some o) ∧
    ∀ (Aw : Around), Room k Aw → Aw.frames = some outer → Rsm ⟨P, w, K, mg, base, N, qual, scope, f, cd, Aw, outer, fun _ _ _ => False, [(a, go)], L⟩ (Br K outs done) (Br K outs done).tot (.fresh (.func body (envOfC qual scope L f cd))) [] [] S s'
/-- behind the call: at most a tuple of the arguments is new beside it -/
def GCall (P : Program) (w : World) (K : PySem.W.Frag) (mg : Str → Option Value) (base : Heap) (k : Nat) (outer : List PySem.Env) (S H : Hp) (s : Shared) (outs : List D) (done : Bool) (r : Result) (s' : Shared) : Prop :=
  ∃ (u : Value) (S2 H2 : Hp) (sc : Shared), r = .ok (.ret u) ∧ ((S2 = S ∧ H2 = H) ∨ ∃ p xs, H p = none ∧ S2 = upd S p (.tup xs) ∧ H2 = upd H p (.tup xs)) ∧ Un (frs outer) [] H H2 s.heap sc.heap ∧ HOk P w H2 sc.heap ∧ sc.os = s.os ∧ AllBare sc.gens ∧
    s'.os = s.os ∧ AllBare s'.gens ∧ (∀ b o, sc.heap.get? b = some o → s'.heap.get? b = some o) ∧ GMk P w K mg base k outer S2 sc.heap.objs.size outs done u s'
def GFnD (P : Program) (w : World) (K : PySem.W.Frag) (mg : Str → Option Value) (base : Heap) (k : Nat) (f : Addr) (R : GSpec) : Prop :=
  ∀ (A : Around) (outer : List PySem.Env) (s : Shared) (S H : Hp) (us : List Value) (vs : List V) (ds outs : List D) (done : Bool), Room k A → Env0 P w K mg base A outer s H → Ex S H → Vals vs us → RpAll K S vs ds → R ds outs done →
    codeAny (model P w) A (.call (.ref f) ⟨us, []⟩) (GCall P w K mg base k outer S H s outs done) s
section
variable {P : Program} {w : World} {K : PySem.W.Frag} {mg : Str → Option Value} {base : Heap} {k : Nat} {x qual : Str} {params : Arguments} {body : List Stmt} {scope : Scope} {f : Addr} {fd : FuncData} {N ps : List Str} {R : GSpec}
/-- the body's law -/
abbrev GBody (P : Program) (w : World) (K : PySem.W.Frag) (mg : Str → Option Value) (base : Heap) (k : Nat) (N : List Str) (qual : Str) (scope : Scope) (f : Addr) (body : List Stmt) (R : GSpec) : Prop :=
  ∀ (cdv : Value) (Aw : Around) (outer : List PySem.Env) (pn : List (Addr × Obj)) (L : Nat), Room k (Aw.deeper (envOfC qual scope L f cdv)) → ∀ ds outs done, R ds outs done → 0 < outs.length + done.toNat →
      GDs ⟨P, w, K, mg, base, N, qual, scope, f, cdv, Aw, outer, fun _ _ _ => False, pn, L⟩ (Br K outs done) [] (env0 N (ds.map VD.d) []) body { nx := fun o _ => done = true ∧ o.length = outs.length }
theorem made (S0 : GScope N ps scope) {cdv : Value} (hbody : GBody P w K mg base k N qual scope f body R)
    {A : Around} {outer : List PySem.Env} {s s1 : Shared} {S H : Hp} {us : List Value} {vs : List V} {ds outs : List D} {done : Bool} (e0 : Env0 P w K mg base A outer s H) (hS : Ex S H) (r : Vals vs us) (rp : RpAll K S vs ds) (hl : vs.length = ps.length) (hR : R ds outs done)
    (x : InCallC s s.heap.objs.size (bindL (envOfC qual scope s.heap.objs.size f cdv).kindOf (ps.zip us) fun _ => none) (cellsFrom (s.heap.objs.size + 1) scope.names []) (bindC (envOfC qual scope s.heap.objs.size f cdv).kindOf (ps.zip us) fun _ => none) s1)
    {go : Obj} {nm qn : Value} {tk2 : Nat} (hgc : go.cls = .type "generator") (hgd0 : go.data = .fields #[.int s1.gens.size 0, nm, qn]) (hgs : go.slots = #[]) (hgp : (s1.heap.push go).get? s1.heap.objs.size = some go) :
    GMk P w K mg base (k + 1) outer S s.heap.objs.size outs done (.ref s1.heap.objs.size) { s1 with gens := s1.gens.push (.fresh (.func body (envOfC qual scope s.heap.objs.size f cdv))), toks := tk2, heap := s1.heap.push go } := by
  have lt1 : s.heap.objs.size < s1.heap.objs.size := x.toInCall.ns.lt
  have sz1 : s.heap.objs.size ≤ s1.heap.objs.size := Nat.le_of_lt lt1
  have kp2 : ∀ b o, s1.heap.get? b = some o → (s1.heap.push go).get? b = some o := fun b o e => Heap.get?_push_of_some _ e
  have hgd : ∀ v, go.data ≠ .cell v := fun v q => by rw [hgd0] at q; cases q
  have bare1 : AllBare s1.gens := by
    obtain ⟨h1, tk, rfl, hk⟩ := x.done
    exact e0.bare
  have os1 : s1.os = s.os := by
    obtain ⟨h1, tk, rfl, hk⟩ := x.done
    rfl
  have I0 : ∀ (Aw : Around), Room (k + 1) Aw → Aw.frames = some outer → Inv (gcxOf P w K mg base N qual scope f cdv Aw outer s H (fun _ _ _ => False) []) [] (start N vs) H s1 := fun Aw hrw hfr =>
    inv_startG S0 hrw.hd ⟨hfr, e0.mod, e0.bs, e0.bsz, e0.funs, e0.frf, e0.hok, e0.bare⟩ hl r x
  refine ⟨s1.heap.objs.size, s1.gens.size, body, N, qual, scope, f, cdv, go, rfl, lt1, hgp, fun h e => ⟨go, nm, qn, e, hgc, hgd0, hgs⟩, Array.getElem?_push_size .., ?_, fun y c e => ?_, fun Aw hrw hfr => ?_⟩
  · obtain ⟨o, _, _, ho, _⟩ := x.toInCall.ns
    exact ⟨o, kp2 _ _ ho⟩
  · have e' : (cellsFrom (s.heap.objs.size + 1) scope.names []).lookup y = some c := e
    obtain ⟨o, ho, _⟩ := x.cell y c e'
    exact ⟨Nat.le_of_lt (x.above y c (PySem.mem_of_lookup e')), o, kp2 _ _ ho⟩
  · have I1 := I0 Aw hrw hfr
    have I2 : Inv (gcxOf P w K mg base N qual scope f cdv Aw outer s H (fun _ _ _ => False) []) [] (start N vs) H { s1 with gens := s1.gens.push (.fresh (.func body (envOfC qual scope s.heap.objs.size f cdv))), toks := tk2, heap := s1.heap.push go } :=
      I1.call' (ch := []) rfl (Un.kept kp2) (I1.hok.kept kp2) (AllBare.push bare1 rfl) fun b z => by simp at z
    have y1 : H s1.heap.objs.size = none := I1.hok.fresh (Nat.le_refl _)
    have y3 : s1.heap.objs.size ∉ frs outer := I1.nofs (Nat.le_refl _)
    have I3 := Inv.pinnedG (pn := [(s1.heap.objs.size, go)]) (pins := []) I2 fun p hp => by
      have e := List.mem_singleton.mp (show p ∈ [(s1.heap.objs.size, go)] by simpa using hp)
      rw [e]
      exact ⟨hgp, y1, Nat.ne_of_gt lt1, y3, hgd⟩
    -- nothing stands behind L at the entry
    have ec : cut s.heap.objs.size s.heap = s.heap := by
      show (⟨s.heap.objs.extract 0 s.heap.objs.size, s.heap.life⟩ : Heap) = s.heap
      rw [Array.extract_size]
    have eH : cutH s.heap.objs.size H = H := funext fun b => by
      unfold cutH
      split
      · rfl
      · exact (e0.hok.fresh (Nat.le_of_not_lt (by assumption))).symm
    have hrb : Room k (Aw.deeper (envOfC qual scope s.heap.objs.size f cdv)) := hrw.deeper _
    refine rsm_start (Φ := ⟨P, w, K, mg, base, N, qual, scope, f, cdv, Aw, outer, fun _ _ _ => False, [(s1.heap.objs.size, go)], s.heap.objs.size⟩) (s₀ := s) (H₀ := H) (H := H) (σ := start N vs) (hbody cdv Aw outer _ _ hrb ds outs done hR) ⟨Nat.le_refl _, fun p hp => ?_, ?_⟩ ?_
    · have e := List.mem_singleton.mp (show p ∈ [(s1.heap.objs.size, go)] by simpa using hp)
      rw [e]
      exact sz1
    · show Inv (gcxOf P w K mg base N qual scope f cdv Aw outer { s with heap := cut s.heap.objs.size s.heap } (cutH s.heap.objs.size H) _ _) _ _ _ _
      rw [ec, eH]
      exact I3
    · have hn : (ds.map VD.d).length ≤ N.length := by
        have := congrArg List.length S0.pre
        rw [List.length_take] at this
        rw [List.length_map, ← rp.length, hl]; omega
      exact Rel.start (M := []) (os := []) hS (RvAll.of_d rp) ⟨rfl, fun n o e => by simp at e⟩ .nil hn
end
end GX

/-! ### a generator's caller -/
namespace GX
open PySem PySem.Spec PyProof.Rows L2 GenW
open DL (Ex Rel Rp RpAll Rv RvAll D VD OD KnOk Kn SD SDs ED AD TD GD ItD tS tE tA tT tG tI Grow Step env0 AllD)
/-! #### calls -/
/-- a def that is a generator's, as it may be called here -/
structure CGGs (P : Program) (w : World) (K : PySem.W.Frag) (mg : Str → Option Value) (base : Heap) (A : Around) (x : Str) (R : GSpec) : Prop where
  ex : ∃ f j, GFnD P w K mg base j f R ∧ Room (j + 4) A ∧ mg x = some (.ref f) ∧ PySem.W.keepIn K (.ref f) = true
structure CGMs (P : Program) (w : World) (K : PySem.W.Frag) (mg : Str → Option Value) (base : Heap) (A : Around) (C : Addr) (m : Str) (R : GSpec) : Prop where
  cl : Cls K C
  ex : ∃ f j, GFnD P w K mg base j f R ∧ Room (j + 4) A ∧ Meth K C m f
section
variable {X : Cx} {pins : List (Addr × Obj)} {σ : L2.St} {H H1 H2 S S1 S2 : Hp} {s s1 s2 : Shared} {fr : DL.Fr} {ad ad1 : List Addr} {ρ ρ1 ρ2 : DEnv} {R : GSpec} {f : Addr} {j : Nat} {outs ds : List D} {done : Bool} {E : Value → Shared → Prop} {a e : Expr} {es : List Expr} {xs : List VD} {n m : Str} {pos pp apos : Pos} {C : Addr} {ns : List Str} {dt : List D}
/-! #### its own things are held while it sleeps -/
open Classical in
noncomputable def addO (Pb : Addr → Prop) (h : Heap) (H : Hp) : Hp := fun b => if Pb b then (h.get? b).map (fun o => HO.ext fun h' => h'.get? b = some o) else H b
open Classical in
noncomputable def dropO (Pb : Addr → Prop) (H : Hp) : Hp := fun b => if Pb b then none else H b
variable {Pb : Addr → Prop} {h : Heap}
theorem addO_out {b : Addr} (hb : ¬ Pb b) : addO Pb h H b = H b := by unfold addO; rw [if_neg hb]
theorem dropO_in {b : Addr} (hb : Pb b) : dropO Pb H b = none := by unfold dropO; rw [if_pos hb]
theorem addO_of {b : Addr} {u : HO} (hn : ∀ b, Pb b → H b = none) (e : H b = some u) : ¬ Pb b ∧ addO Pb h H b = some u := by
  have : ¬ Pb b := fun z => by rw [hn b z] at e; cases e
  exact ⟨this, (addO_out this).trans e⟩
end
end GX

/-! ### next(g) in its caller; what the caller does meanwhile -/
namespace GX
open PySem PySem.Spec PyProof.Rows L2 GenW
open DL (Ex Rel Rp RpAll Rv RvAll D VD OD OR KnOk Kn SD SDs ED AD TD GD ItD tS tE tA tT tG tI Grow Step env0 AllD)
/-- what stood ahead of L -/
structure Old (X : Cx) (pins : List (Addr × Obj)) (L : Nat) : Prop where
  loc : X.env.locals < L
  cells : ∀ x c, X.env.cells.lookup x = some c → c < L
  pins : ∀ p ∈ X.pn ++ pins, p.1 < L
  s0 : X.s_0.heap.objs.size ≤ L
abbrev fmX (X : Cx) (A : Around) (N : List Str) (qual : Str) (scope : Scope) (f : Addr) (cd : Value) (a : Addr) (go : Obj) (L : Nat) : Fm := ⟨X.prog, X.w, X.K, X.mg, X.base, N, qual, scope, f, cd, A, X.stack, fun _ _ _ => False, [(a, go)], L⟩
/-- it sleeps behind i items -/
def Slp (Φ : Fm) (a : Addr) (g : Nat) (go : Obj) (outs : List D) (done : Bool) (i : Nat) (ip : List (Addr × Obj)) (S H : Hp) (s : Shared) : Prop :=
  ∃ (gs : GenState) (ys : List V) (ssl : Shared) (Sz : Hp), ys.length = i ∧ s.gens[g]? = some gs ∧ (i = 0 ∨ isSusp gs = true) ∧ s.heap.get? a = some go ∧ Ex Sz S ∧
    (∀ b, Φ.Own ip b → Φ.L ≤ b ∧ ∃ o, ssl.heap.get? b = some o ∧ s.heap.get? b = some o ∧ H b = none) ∧ Rsm Φ (Br Φ.K outs done) ((Br Φ.K outs done).tot - i) gs ys ip Sz ssl
section
variable {X : Cx} {pins : List (Addr × Obj)} {σ : L2.St} {H H1 H2 S S1 S2 : Hp} {s s0 s1 s2 s3 : Shared} {fr : DL.Fr} {ad ad1 ad2 : List Addr} {ρ ρ1 ρ2 : DEnv} {outs ds : List D} {done : Bool} {E : Value → Shared → Prop} {A : Around} {N : List Str} {qual : Str} {scope : Scope} {f a : Addr} {cd : Value} {go : Obj} {L g i : Nat} {ip : List (Addr × Obj)}
/-- the caller's state behind a piece of the generator's run -/
theorem inv_back {σ2 : L2.St} (I : Inv X pins σ H s) (old : Old X pins L) (J : (fmX X A N qual scope f cd a go L).I s0 H ip σ2 H2 s2) (h0 : s0.heap = s.heap) (o0 : s0.os = s.os) (ex : Ex H H2) (o3 : s3.os = s2.os) (k3 : ∀ b o, s2.heap.get? b = some o → s3.heap.get? b = some o) (b3 : AllBare s3.gens) : Inv X pins σ H2 s3 := by
  obtain ⟨hl, hp, J⟩ := J
  have os2 : s2.os = s0.os := J.os
  have un : Un (frs X.stack) [] (cutH L H) H2 (cut L s0.heap) s2.heap := J.base
  rw [h0] at un
  have young : ∀ b o, s.heap.get? b = some o → b ∉ List.range' L (s.heap.objs.size - L) → b < L := fun b o e hb => by
    have h1 := Heap.lt_size e
    rcases Nat.lt_or_ge b L with z | z
    · exact z
    · have h3 : L + (s.heap.objs.size - L) = s.heap.objs.size := Nat.add_sub_cancel' (Nat.le_trans z (Nat.le_of_lt h1))
      exact absurd (List.mem_range'_1.mpr ⟨z, by rw [h3]; exact h1⟩) hb
  have look : ∀ b o, s.heap.get? b = some o → b < L → (cut L s.heap).get? b = some o := fun b o e hb => by rw [cut_get hb]; exact e
  refine I.call' (ch := List.range' L (s.heap.objs.size - L)) ((o3.trans os2).trans o0) ⟨fun b o e n hb hc => ?_, fun b o e n hb hc => ?_, fun b o e n hc => ?_, fun b o e hc => ?_, fun b xs e => ex _ _ e, fun b o u e => ex _ _ e, fun b ps e => ⟨#[], by rw [ex _ _ e]; simp⟩⟩ (J.hok.kept k3) b3 fun b hb => ?_
  · have hL := young b o e hc
    exact k3 _ _ (un.keep b o (look b o e hL) ((cutH_lt hL).trans n) hb (by simp))
  · have hL := young b o e hc
    obtain ⟨sl, q⟩ := un.slot b o (look b o e hL) ((cutH_lt hL).trans n) hb (by simp)
    exact ⟨sl, k3 _ _ q⟩
  · have hL := young b o e hc
    exact un.free b o (look b o e hL) ((cutH_lt hL).trans n) (by simp)
  · have hL := young b o e hc
    obtain ⟨o', q⟩ := un.there b o (look b o e hL) (by simp)
    exact ⟨o', k3 _ _ q⟩
  · have hL := (List.mem_range'_1.mp hb).1
    exact ⟨.inr (Nat.le_trans old.s0 hL), Nat.ne_of_gt (Nat.lt_of_lt_of_le old.loc hL), fun x c e => Nat.ne_of_lt (Nat.lt_of_lt_of_le (old.cells x c e) hL), fun p hp => Nat.ne_of_lt (Nat.lt_of_lt_of_le (old.pins p hp) hL)⟩
/-- next(g) -/
theorem Slp.next {Q : Option Value → Shared → Prop} (hA : A.handled = none) (hd : A.depth < recursionLimit) (hfr : A.frames = some X.stack) (hg : ∀ h : Heap, h.get? a = some go → h.IsGen a g)
    (I : Inv X pins σ H s) (hSH : Ex S H) (old : Old X pins L) (Z : Slp (fmX X A.in1 N qual scope f cd a go L) a g go outs done i ip S H s) (hi : i < outs.length ∨ (done = true ∧ i = outs.length))
    (hY : ∀ v x d s2 S2 H2 ip2, RelV x v → outs[i]? = some d → Rp X.K S2 x d → Grow [] S H S2 H2 → Inv X pins σ H2 s2 → Slp (fmX X A.in1 N qual scope f cd a go L) a g go outs done (i + 1) ip2 S2 H2 s2 → Q (some v) s2)
    (hE : done = true → i = outs.length → ∀ s2 S2 H2, Grow [] S H S2 H2 → Inv X pins σ H2 s2 → Q none s2) : wpAny (model X.prog X.w) A (pyNext (.ref a)) Q E s := by
  obtain ⟨gs, ys, ssl, Sz, hys, hgs, hsus, hao, ez, own, rsm⟩ := Z
  have htot : ∃ m, outs.length + done.toNat - i = m + 1 := by
    rcases hi with h | ⟨h, h2⟩
    · exact ⟨outs.length + done.toNat - i - 1, by omega⟩
    · subst h
      have h1 : true.toNat = 1 := rfl
      exact ⟨0, by omega⟩
  obtain ⟨m, hm⟩ := htot
  have rsm : Rsm (fmX X A.in1 N qual scope f cd a go L) (Br X.K outs done) (outs.length + done.toNat - i) gs ys ip Sz ssl := rsm
  rw [hm] at rsm
  have bare' : ∀ x : GenState, x.bare = true → AllBare (s.setGen g x).gens := fun x hx => allBare_setGen I.bare hx
  have go1 := rsm (s.setGen g .running) S H ez hSH ⟨⟨hfr, I.ok.mod, I.bs, Nat.le_trans I.ok.bsz I.sz, I.stack, I.stkFree, I.hok, bare' _ rfl⟩, fun b o h1 h2 h3 => ?_⟩
  · have hgl : g < s.gens.size := (Array.getElem?_eq_some_iff.mp hgs).1
    refine wpAny_gsz (n := g + 1) hgl (next_g hA I.nolimit hd (hg _ hao) hgs go1 (fun v s1 gs' hsu hba hY1 hsz => ?_) fun r s1 hR => ?_)
    · obtain ⟨x, ip2, σ2, S2, H2, rv, J, ⟨gr, d, hdd, rp⟩, ex2, rsm2⟩ := hY1
      have b1 : AllBare s1.gens := J.2.2.bare
      have exH : Ex H H2 := fun b o e => gr.h b o e (by simp)
      have I2 : Inv X pins σ H2 (s1.setGen g gs') := inv_back I old J rfl rfl exH rfl (fun _ _ e => e) (allBare_setGen b1 hba)
      rw [hys] at hdd
      have hm2 : outs.length + done.toNat - (i + 1) = m := by omega
      have hsz1 : g < s1.gens.size := by
        have q : (s1.setGen g gs').gens.size = s1.gens.size := setGen_size _ _ _
        have hsz' : g + 1 ≤ (s1.setGen g gs').gens.size := hsz
        omega
      refine hY v x d _ S2 H2 ip2 rv hdd rp gr I2 ⟨gs', ys ++ [x], s1, S2, by simp [hys], setGen_at hsz1, .inr hsu, (J.2.2.pin (a, go) (List.mem_append_left _ (List.mem_singleton.mpr rfl))).1, .refl _, fun b hb => ?_, ?_⟩
      · obtain ⟨hl, hp, J⟩ := J
        have e1 : ((fmX X A.in1 N qual scope f cd a go L).X (s.setGen g .running) H).env = (fmX X A.in1 N qual scope f cd a go L).e0 := Fm.env hl
        rcases hb with rfl | ⟨y, hb⟩ | ⟨p, hp1, rfl⟩
        · obtain ⟨_, ⟨o, _, _, ho, _⟩, _⟩ := J.loc
          rw [e1] at ho
          have h2 := J.free
          rw [e1] at h2
          exact ⟨Nat.le_refl _, o, ho, ho, h2⟩
        · obtain ⟨v', o, ho, _⟩ := J.cell y b (by rw [e1]; exact hb)
          have h2 := J.freeC y b (by rw [e1]; exact hb)
          have h3 := J.ok.cab y b rfl (by rw [e1]; exact hb)
          have h4 : ((fmX X A.in1 N qual scope f cd a go L).X (s.setGen g .running) H).s_0.heap.objs.size = L := cut_size hl
          rw [h4] at h3
          exact ⟨h3, o, ho, ho, h2⟩
        · obtain ⟨h1, h2, _⟩ := J.pin p hp1
          exact ⟨hp p hp1, p.2, h1, h1, h2⟩
      · show Rsm _ _ (outs.length + done.toNat - (i + 1)) _ _ _ _ _
        rw [hm2]
        exact rsm2
    · rcases hR with ⟨hok, ip', σ', H', J, hd1, hl1, S2, gr⟩ | ⟨e, rfl, cx, _⟩
      · refine .inl ⟨hok, fun h' hk _ => ?_⟩
        have b1 : AllBare s1.gens := J.2.2.bare
        exact hE hd1 (hys.symm.trans hl1) _ S2 H' gr (inv_back I old J rfl rfl (fun b o e => gr.h b o e (by simp)) rfl hk (allBare_setGen b1 rfl))
      · obtain ⟨_, _, _, _, _, _, _, _, _, _, _, _, hW⟩ := cx
        exact hW.elim
  · obtain ⟨_, o', e1, e2, e3⟩ := own b h2
    rw [e1] at h3
    cases h3
    exact ⟨e2, e3⟩
/-- an own object of ours that is no lent one -/
def Mine (ρ : DEnv) (ad : List Addr) (b : Addr) : Prop := ∃ n o, ρ.m ≤ n ∧ ρ.ow[n]? = some (some o) ∧ ad[n]? = some b
open Classical in
/-- the entry of the caller's piece, while the generator's own things are held -/
noncomputable def frO (fr : DL.Fr) (ρ : DEnv) (ad : List Addr) (Pb : Addr → Prop) (h : Heap) (S H : Hp) : DL.Fr := ⟨fr.M, S, fun b => if Mine ρ ad b then none else addO Pb h H b⟩
section
variable {K : PySem.W.Frag} {Pb : Addr → Prop} {h : Heap}
open Classical in
theorem Rel.hold (R : Rel K fr ρ σ S H ad) (hn : ∀ b, Pb b → H b = none) : Rel K (frO fr ρ ad Pb h S H) ρ σ S (addO Pb h H) ad := by
  have up : ∀ b u, H b = some u → addO Pb h H b = some u := fun b u e => (addO_of hn e).2
  refine ⟨⟨.refl _, fun a u e => up _ _ (R.grow.sh a u e), fun a o e _ => ?_, fun a e _ _ => e⟩, R.slots, fun n o e => ?_, R.mm, R.nd, R.len, R.al, R.ml, fun l hl => ?_⟩
  · have e : (if Mine ρ ad a then none else addO Pb h H a) = some o := e
    split at e
    · cases e
    · exact e
  · obtain ⟨l, ho, e1, e2, e3, e4, e5⟩ := R.own n o e
    refine ⟨l, ho, e1, e2, up _ _ e3, e4, fun hm => ?_⟩
    show (if Mine ρ ad l then none else addO Pb h H l) = none
    rw [if_pos ⟨n, o, hm, e, e1⟩]
  · cases q : H l with
    | none => exact absurd q (R.lv l hl)
    | some u => rw [up _ _ q]; simp
theorem OR.next {S : Hp} {ad : List Addr} {l : Addr} {φ : Heap → Prop} {o : OD} (h : OR K S ad l (.ext φ) o) : False := by cases o <;> exact h.elim
end
end
end GX

/-! ### for x in g(..): body -/
namespace GX
open PySem PySem.Spec PyProof.Rows L2 GenW
open DL (Ex Rel Rp RpAll Rv RvAll D VD OD OR KnOk Kn SD SDs ED AD TD GD ItD tS tE tA tT tG tI Grow Step env0 AllD)
section
variable {X : Cx} {pins : List (Addr × Obj)} {σ : L2.St} {H H1 H2 S S1 S2 S' H' : Hp} {s s0 s1 s2 s3 s' : Shared} {fr : DL.Fr} {ad ad1 ad2 : List Addr} {ρ ρ1 ρ2 : DEnv} {outs ds : List D} {done : Bool} {E : Value → Shared → Prop} {A : Around} {N : List Str} {qual : Str} {scope : Scope} {f a : Addr} {cd : Value} {go : Obj} {L g i : Nat} {ip : List (Addr × Obj)} {Φ : Fm}
/-- its own things were held: it sleeps on -/
theorem Slp.kept {P : Program} {w : World} (hpn : Φ.pn = [(a, go)]) (Z : Slp Φ a g go outs done i ip S H s) (hi : 0 < i) (asl : Asleep s.gens s'.gens) (e : Ex S S') (hok : HOk P w H' s'.heap) (pb : ∀ b, Φ.Own ip b → ∀ o, s.heap.get? b = some o → H' b = some (.ext fun h' => h'.get? b = some o)) :
    Slp Φ a g go outs done i ip S' (dropO (Φ.Own ip) H') s' := by
  obtain ⟨gs, ys, ssl, Sz, hys, hgs, hsus, hao, ez, own, rsm⟩ := Z
  have hs : isSusp gs = true := by
    rcases hsus with z | z
    · omega
    · exact z
  have at_ : ∀ b, Φ.Own ip b → ∀ o, s.heap.get? b = some o → s'.heap.get? b = some o := fun b hb o q => by
    have := hok b _ (pb b hb o q)
    exact this.1
  refine ⟨gs, ys, ssl, Sz, hys, asl g gs hgs hs, hsus, at_ a (.inr (.inr ⟨(a, go), by rw [hpn]; simp, rfl⟩)) go hao, ez.trans e, fun b hb => ?_, rsm⟩
  obtain ⟨h1, o, e1, e2, e3⟩ := own b hb
  exact ⟨h1, o, e1, at_ b hb o e2, dropO_in hb⟩
variable {tg iter : Expr} {body r : List Stmt} {k : Kn} {pos : Pos}
end
end GX

/-! ### list(g(..)): such a generator is one of the kit's kind, too -/
namespace GX
open PySem PySem.Spec PyProof.Rows L2 GenW
open DL (Ex Rel Rp RpAll Rv RvAll D VD OD OR KnOk Kn SD SDs ED AD TD GD ItD tS tE tA tT tG tI Grow Step env0 AllD)
section
variable {X : Cx} {pins : List (Addr × Obj)} {σ : L2.St} {H H1 H2 S S1 S2 : Hp} {s s0 s1 sc : Shared} {fr : DL.Fr} {ad : List Addr} {ρ ρ1 : DEnv} {outs : List D} {A : Around} {N : List Str} {qual : Str} {scope : Scope} {f a Sx : Addr} {cd : Value} {go : Obj} {g : Nat}
variable {e : Expr} {nm : Str} {p pos : Pos}
end
end GX

/-! ### mirrors of generators: all that is still to be handed out, and whether the end comes behind it -/
namespace GX
open PySem PySem.Spec PyProof.Rows L2 GenW
open DL (Ex Rel Rp RpAll Rv RvAll D VD OD OR KnOk Kn SD SDs ED AD TD GD ItD tS tE tA tT tG tI Grow Step env0 AllD Wk LocOk TG Fl bnd ct cf sm)
/-- behind o there is still l -/
structure Rem (outs o l : List D) : Prop where
  drop : outs.drop o.length = l
  len : o.length + l.length = outs.length
theorem Rem.start {outs : List D} : Rem outs [] outs := ⟨rfl, by simp⟩
theorem Rem.next {outs o l : List D} {d : D} (h : Rem outs o (d :: l)) : outs[o.length]? = some d ∧ Rem outs (o ++ [d]) l := by
  obtain ⟨h1, h2⟩ := h
  have e : outs[o.length]? = some d := by
    have : (outs.drop o.length)[0]? = some d := by rw [h1]; rfl
    rw [List.getElem?_drop] at this; simpa using this
  refine ⟨e, ?_, ?_⟩
  · rw [List.length_append, List.length_singleton, ← List.drop_drop, h1]; rfl
  · rw [List.length_append, List.length_singleton]; simp at h2; omega
section
variable {Φ : Fm} {st : Stmt} {r body : List Stmt} {o l : List D} {ρ ρ1 : DEnv} {k : Kg} {pos yp : Pos} {e c tg iter : Expr} {d : D} {outs ds : List D} {done p : Bool} {j : Nat}
end
/-! #### in the caller -/
section
variable {X : Cx} {ρ ρ1 : DEnv} {r body : List Stmt} {k : Kn} {pos : Pos} {tg iter : Expr} {outs : List D} {done : Bool}
end
end GX

/-! ### list(g), by the mirror -/
namespace GX
open PySem PySem.Spec PyProof.Rows L2 GenW
open DL (D ED)
end GX
namespace DL
open PySem PySem.Spec PyProof.Rows L2
section
variable {X : Cx} {ρ ρ1 : Env} {a b : Expr} {rest : List Expr} {pos : Pos} {p q : Bool} {B : Option Bool}
end
end DL

/-! ### instances of several fields as values: v stands for the instance, its mirror for the fields -/
namespace DL
open PySem PySem.Spec PyProof.Rows L2
/-- an instance that has no field m -/
def IsM (C : Addr) (m : Str) (v : D) : Prop := ∃ (ns : List Str) (ds : List D), v = .ins C ns ds ∧ m ∉ ns
section
variable {X : Cx} {ρ ρ1 ρ2 : Env} {a e : Expr} {es : List Expr} {v d rr dd : D} {C : Addr} {f m n : Str} {pos apos pp : Pos} {xs : List VD} {dt : List D} {R : FSpec}
end
end DL
namespace GX
open PySem PySem.Spec PyProof.Rows L2 GenW
open DL (D VD ED AD AllD IsM)
end GX

/-! ### divmod; is None as a value -/
namespace DL
open PySem PySem.Spec PyProof.Rows L2
section
variable {X : Cx} {ρ ρ1 : Env} {a : Expr} {u w t d : D} {pos pos' : Pos} {j : Nat}
end
end DL

/-! ### d[k] of a dict of ours, its keys tuples -/
namespace DL
open PySem PySem.Spec PyProof.Rows L2
end DL
namespace GX
end GX

namespace DL
open PySem PySem.Spec PyProof.Rows L2
/-! ### list(d.values()), of a dict that is data -/
section
variable {X : Cx} {ρ ρ1 : Env} {d w : D} {e : Expr} {apos pos : Pos} {m : DM}
end
end DL

namespace DL
open PySem PySem.Spec PyProof.Rows L2
/-! ### comprehensions whose turns change what is ours -/
section
variable {X : Cx} {ρ ρ1 : Env} {c tg iter elt : Expr} {ifs : List Expr} {pos : Pos} {ds : List D} {d w : D} {l : List (Nat × D)}
section
variable {σ : Type} {f : D → σ → Option (Option D × σ)} {s0 s1 : σ} {out : List D} {gv : List Nat} {scope : Scope} {own : List (Str × Nat)}
end
end
end DL

namespace DL
open PySem PySem.Spec PyProof.Rows L2 LamX
/-! ### several defs that make closures: their tables are lent on -/
theorem Lend.more {ow : List (Option OD)} {n : Nat} {o : OD} {ns : List Nat} {os : List OD} (h : ow[n]? = some (some o)) (hf : o.free) (hn : n ∉ ns) (l : Lend ow ns os) : Lend ow (n :: ns) (o :: os) :=
  ⟨by simp [l.len], List.nodup_cons.mpr ⟨hn, l.nd⟩, fun i m e => by
    cases i with
    | zero => simp at e; subst e; exact ⟨o, h, rfl, hf⟩
    | succ i =>
      obtain ⟨u, h1, h2, h3⟩ := l.at_ i m (by simpa using e)
      exact ⟨u, h1, by simpa using h2, h3⟩⟩
/-- the law's promise with all tables lent -/
theorem law_sps {K : PySem.W.Frag} {R : FSpec} {ts : List (Addr × Str)} (H : Hp) (a : Addr) (ns : List Int) (nd : (ts.map fun p => p.1).Nodup) (hP : ∀ p ∈ ts, H p.1 = some (.tbl #[])) (hS : SqL K H a (ns.map V.int))
    (hR : R [.d (.lst (ns.map D.int))] (ts.map fun p => .tb p.1 p.2) (.bl true) (ts.map fun p => .tb p.1 p.2)) : spF K R [.ref a] H (fun v _ => v = .bl true) fun _ _ _ => False := by
  have hin : ∀ b, b ∈ ts.map (fun p => p.1) → H b = some (.tbl #[]) := fun b hb => by
    obtain ⟨p, hp, rfl⟩ := List.mem_map.mp hb
    exact hP p hp
  refine ⟨fun b => if b ∈ ts.map (fun p => p.1) then none else H b, ts.map fun p => p.1, [.d (.lst (ns.map D.int))], ts.map fun p => .tb p.1 p.2, .bl true, ts.map fun p => .tb p.1 p.2, fun b o e => ?_, .cons (.d (.lst ?_ (RpAll.of_ints ns))) .nil, ⟨by simp, fun i o e => ?_⟩, nd, hR, fun o ho => ?_, fun S' H' v _ r _ => r.bl_inv⟩
  · have e : (if b ∈ ts.map (fun p => p.1) then none else H b) = some o := e
    split at e
    · cases e
    · exact e
  · have ne : ∀ b u, H b = some u → (∀ ps, u ≠ .tbl ps) → (fun b => if b ∈ ts.map (fun p => p.1) then none else H b) b = some u := fun b u e hu => by
      have : b ∉ ts.map (fun p => p.1) := fun z => by rw [hin b z] at e; cases e; exact hu _ rfl
      show (if b ∈ ts.map (fun p => p.1) then none else H b) = some u
      rw [if_neg this]; exact e
    rcases hS with (h | ⟨o, h⟩) | h
    · exact .inl (.inl (ne _ _ h fun _ z => by cases z))
    · exact .inl (.inr ⟨o, ne _ _ h fun _ z => by cases z⟩)
    · exact .inr h
  · rw [List.getElem?_map] at e
    cases q : ts[i]? with
    | none => rw [q] at e; cases e
    | some p =>
      rw [q] at e
      cases e
      have hm := List.mem_of_getElem? q
      have hb : p.1 ∈ ts.map (fun p => p.1) := List.mem_map.mpr ⟨p, hm, rfl⟩
      refine ⟨p.1, .tbl #[], by rw [List.getElem?_map, q]; rfl, if_pos hb, hP p hm, rfl, True.intro, fun pos cv z => ?_⟩
      have z : codeAmong pos [] = some cv := z
      simp [codeAmong] at z
  · obtain ⟨p, _, rfl⟩ := List.mem_map.mp ho
    exact True.intro
end DL

namespace DL
open PySem PySem.Spec PyProof.Rows L2
/-! ### what is raised: methods of instances that are values, constructors -/
section
variable {X : Cx} {E : XK} {ρ ρ1 ρ2 : Env} {a e : Expr} {es : List Expr} {v u : D} {C : Addr} {m n : Str} {pos apos pp spos : Pos} {xs : List VD} {ds dt : List D} {RX : XSpec} {x : XV}
structure XKs (P : Program) (w : World) (K : PySem.W.Frag) (mg : Str → Option Value) (base : Heap) (A : Around) (C : Addr) (n : Str) (R : XSpec) : Prop where
  ex : ∃ f j, FnR P w K mg base (L2.CX P w) j f (spX K R) ∧ Room (j + 1) A ∧ Mk K C f ∧ mg n = some (.ref C)
abbrev XKc (X : Cx) : Addr → Str → XSpec → Prop := XKs X.prog X.w X.K X.mg X.base X.A
/-- __init__ raises: the new instance is nobody's -/
theorem make_spX {K : PySem.W.Frag} {fr : Fr} {σ : L2.St} {S H : Hp} {ad : List Addr} {vs : List V} {Q : VK} {ρ : Env} (A : Rel K fr ρ σ S H ad) (hv : RvAll K S ad vs xs) (hd : AllD xs ds) (hR : RX (.loc 0 :: xs) [.ins C [] []] x [.ins C [] []]) {l dx : Addr} (h1 : H l = none) (h2 : H dx = none) (h3 : dx ≠ l)
    (k : ∀ S' H' cls dd, Step S ad S' ad → Rel K fr ρ σ S' H' ad → IsX K S' H' cls dd x → E cls dd H') : spX K RX (.ref l :: vs) (upd (upd H dx (.own l)) l (.ins C dx [])) (fun v H2 => v = .non ∧ Q (.ref l) H2) E := by
  have S1 : S l = none := A.grow.sh.back h1
  have exH : Ex H (upd (upd H dx (.own l)) l (.ins C dx [])) := (Ex.new h2).trans (Ex.new (by rw [upd_ne h3.symm]; exact h1))
  refine ⟨S, [l], .loc 0 :: xs, [.ins C [] []], x, [.ins C [] []], A.grow.sh.trans exH, .cons (.loc rfl) ?_, ⟨rfl, fun n u e => ?_⟩, by simp, hR, fun u hu => ?_, fun S' H' cls dd g ix oa => ?_⟩
  · have := hd.rp hv
    clear hR
    induction hd generalizing vs with
    | nil => cases hv; exact .nil
    | cons _ ih =>
      cases hv with
      | cons r t =>
        cases this with
        | cons a b => exact .cons (.d a) (ih t b)
  · cases n with
    | zero =>
      simp at e
      subst e
      exact ⟨l, _, rfl, S1, upd_same, rfl, [], rfl, rfl, .nil⟩
    | succ n => simp at e
  · have : u = .ins C [] [] := by simpa using hu
    subst this
    exact ⟨[], .nil⟩
  · have hst0 : Step S ad S' ad := ⟨g.s, [], by simp⟩
    have keep : ∀ a u, H a = some u → H' a = some u := fun a u e => g.h a u (exH a u e) (by simp; exact ne_of_none e h1)
    have none' : ∀ a, S a = none → H a ≠ none → (∀ xs, H a ≠ some (.tup xs)) → S' a = none := fun a e1 e2 e3 => by
      cases q : H a with
      | none => exact absurd q e2
      | some u => exact g.n a e1 (by rw [exH a u q]; simp) (by rw [exH a u q, ← q]; exact e3)
    refine k S' H' cls dd hst0 ⟨⟨A.grow.s.trans g.s, g.sh, fun a u e hm => keep a u (A.grow.h a u e hm), fun a f1 f2 f3 => none' a (A.grow.n a f1 f2 f3) (A.old f2) (A.ntup f2 f3)⟩, fun i w e => ?_, fun i u e => ?_, A.mm, A.nd, A.len, A.al, A.ml, fun a ha => ?_⟩ ix
    · obtain ⟨v', q1, q2⟩ := A.slots i w e
      exact ⟨v', q1, q2.mono hst0⟩
    · obtain ⟨l2, u2, q1, q2, q3, q4, q5⟩ := A.own i u e
      exact ⟨l2, u2, q1, none' l2 q2 (by rw [q3]; simp) (fun xs z => by rw [q3] at z; cases z; exact q4.ntup), keep l2 u2 q3, q4.mono hst0, q5⟩
    · cases q : H a with
      | none => exact absurd q (A.lv a ha)
      | some u => rw [keep a u q]; simp
/-- C(*e) raises -/
theorem pe_makeSX {k : Nat} {f : Addr} {sp : Sp} {te : TE} {CX : CXT} (M : Mk X.K C f) (F : FnR X.prog X.w X.K X.mg X.base CX k f sp) (hr : Room (k + 1) X.A) (hg : Gl X n) (hm : X.mg n = some (.ref C)) (hx : Passes CX X E) (he : PE X e te) (hdb : (n == ("__debug__" : Str)) = false)
    (hst : starEach [.Starred e spos] X.env = [(true, eval e X.env)]) :
    PE X (.Call (.Name n pp) [.Starred e spos] [] pos) (fun σ H Q => te σ H fun y H1 => ∃ a vs, y = V.ref a ∧ (SqT X.K H1 a vs ∨ SqL X.K H1 a vs) ∧ ∀ x dx, H1 x = none → H1 dx = none → dx ≠ x →
      sp (.ref x :: vs) (upd (upd H1 dx (.own x)) x (.ins C dx [])) (fun v H2 => v = .non ∧ Q (.ref x) H2) E) := by
  constructor
  intro pins s σ H Q I h
  refine wpAny_Call_Name_kw (ld_glob I hg hm ?_ hdb)
  refine PySem.W.callWith_S (h₀ := X.base) I.ok.mod.kin M.kp (thn (he.run pins s σ H _ I h) fun v s1 ⟨y, H1, I1, ry, a, vs, ey, hxs, q⟩ => ?_) hst
  subst ey
  obtain rfl : v = Value.ref a := ry
  exact StX.star_any I1 hxs fun us s2 I2 rv => ⟨I2.kIn, StX.run_makeR (E := E) M F hr hx I2 rv q⟩
theorem ex_makeS (tk : Lets X E) (F : XKc X C n RX) (ha : ED X ρ e (.d u) ρ1) (hu : u.seq? = some ds) (hR : RX (.loc 0 :: ds.map VD.d) [.ins C [] []] x [.ins C [] []]) (hg : Gl X n) (hdb : (n == ("__debug__" : Str)) = false := by decide)
    (hst : starEach [.Starred e spos] X.env = [(true, eval e X.env)] := by rfl) : EX X E ρ (.Call (.Name n pp) [.Starred e spos] [] pos) x ρ1 := by
  obtain ⟨f, j, G, hr, hM, hm⟩ := F.ex
  exact ex_of (pe_makeSX hM G hr hg hm (passes_call tk fun _ _ _ _ h => h) ha hdb hst) fun σ H Q ⟨fr, S, ad, A, kk⟩ => ⟨fr, S, ad, A, fun S1 H1 ad1 v st1 A1 r1 => by
    obtain ⟨a, vs, e1, e2, e3⟩ := r1.dd.seq hu
    refine ⟨a, vs, e1, (e2.imp (ex_l A1.grow.sh) (ex_t A1.grow.sh)).symm, fun l dx h1 h2 h3 => ?_⟩
    exact make_spX A1 (.of_d e3) (.of_map ds) hR h1 h2 h3 fun S' H' cls dd st' A' ix => kk S' H' ad1 cls dd (st1.trans st') A' ix⟩
theorem ex_makeRS {d : D} (tk : Lets X E) (F : XKc X C n (starX RX)) (ha : ED X ρ e (.d u) ρ1) (hu : dSeq u = some ds) (ht : dTup ds = some d) (hR : RX [.loc 0, .d d] [.ins C [] []] x [.ins C [] []]) (hg : Gl X n) (hdb : (n == ("__debug__" : Str)) = false)
    (hst : starEach [.Starred e spos] X.env = [(true, eval e X.env)]) : EX X E ρ (.Call (.Name n pp) [.Starred e spos] [] pos) x ρ1 := by
  unfold dTup at ht
  split at ht
  · cases ht; exact ex_makeS tk F ha hu ⟨.loc 0, ds.map VD.d, ds, rfl, .of_map ds, by assumption, hR⟩ hg hdb hst
  · cases ht
end
end DL

namespace DL
open PySem PySem.Spec PyProof.Rows L2
/-! ### class methods, constants of a class, own operators that raise, == and in of instances that are data -/
section
variable {X : Cx} {E : XK} {ρ ρ1 ρ2 : Env} {a b e : Expr} {es : List Expr} {d u rr w : D} {C : Addr} {m n f : Str} {pos apos pp spos : Pos} {xs : List VD} {ds ds' dt : List D} {ns : List Str} {R : FSpec} {RX : XSpec} {x : XV} {p : Bool}
structure CCMs (P : Program) (w : World) (K : PySem.W.Frag) (mg : Str → Option Value) (base : Heap) (A : Around) (C : Addr) (m : Str) (R : FSpec) : Prop where
  cr : ClX.CRead K C (.type "type")
  ex : ∃ f j q, FnR P w K mg base CX0 j f (spF K R) ∧ Room j A ∧ ClX.CMet K C (.type "type") m q f
structure XCMs (P : Program) (w : World) (K : PySem.W.Frag) (mg : Str → Option Value) (base : Heap) (A : Around) (C : Addr) (m : Str) (R : XSpec) : Prop where
  cr : ClX.CRead K C (.type "type")
  ex : ∃ f j q, FnR P w K mg base (L2.CX P w) j f (spX K R) ∧ Room j A ∧ ClX.CMet K C (.type "type") m q f
/-! own operators that raise -/
structure XSs (P : Program) (w : World) (K : PySem.W.Frag) (mg : Str → Option Value) (base : Heap) (A : Around) (C : Addr) (m : Str) (R : XSpec) : Prop where
  ex : ∃ f j, FnR P w K mg base (L2.CX P w) j f (spX K R) ∧ Room (j + 1) A ∧ PySem.W.findIn K (.ref C) m = some (some (.ref f)) ∧ PySem.W.isFn K (.ref f) = true ∧ PySem.W.selfFirst K C = true
def dT : D → Option String
  | .int _ => some "int"
  | .bl _ => some "bool"
  | .non => some "NoneType"
  | _ => none
/-! o[i] raises -/
/-! e in o, o an instance that is data -/
/-! == of an instance with another one, or with a tuple -/
end
end DL

namespace DL
open PySem PySem.Spec PyProof.Rows L2
/-! ### and, or as values that change what is ours -/
section
variable {X : Cx} {ρ ρ1 ρ2 : Env} {a b e : Expr} {rest : List Expr} {pos : Pos} {p q : Bool}
theorem ED.env {x : VD} (he : ED X ρ e x ρ1) (h : ρ1 = ρ2) : ED X ρ e x ρ2 := by subst h; exact he
end
/-! ### membership in a tuple, by equality -/
def rInDT (K : PySem.W.Frag) : R2 := fun x y H Q => ∃ d ds, Dp K H x d ∧ Dp K H y (.tuple ds) ∧ SeqAt.shaped d = true ∧ SeqAt.shaped (.tuple ds) = true ∧ Q (.bl (ds.any fun z => PyData.eqv z d)) H
theorem op_inDT {X : Cx} (hu : X.A.units + 65 < cLine) : OpR X (compareOp .In) (rInDT X.K) := by
  intro pins s σ H x y v u Q I rx ry h
  obtain ⟨d, ds, hd, he, sd, se, q⟩ := h
  obtain ⟨as, r1⟩ := Dp.reads I d x v hd rx
  obtain ⟨bs, r2⟩ := Dp.reads I (.tuple ds) y u he ry
  exact SeqAt.in_tuple_reads r2 r1 (SeqAt.canLay_of_shaped se) (SeqAt.canLay_of_shaped sd) (room_in_shaped sd hu) ⟨.bl _, H, I, rfl, q⟩
open Classical in
noncomputable def dInT (d u : D) : Option Bool := match u with
  | .tup ds => if d.ok = true ∧ d.dep ≤ 64 ∧ (D.tup ds).ok = true ∧ (D.tup ds).dep ≤ 64 then some (decide (d ∈ ds)) else none
  | _ => none
theorem dInT_ok {d u : D} {p : Bool} (h : dInT d u = some p) : ∃ ds, u = .tup ds ∧ d.ok = true ∧ d.dep ≤ 64 ∧ (D.tup ds).ok = true ∧ (D.tup ds).dep ≤ 64 ∧ ((pyAll ds).any fun z => PyData.eqv z d.py) = p := by
  unfold dInT at h
  split at h
  · rename_i ds
    split at h
    · rename_i hh
      cases h
      refine ⟨ds, rfl, hh.1, hh.2.1, hh.2.2.1, hh.2.2.2, ?_⟩
      have h1 : okAll ds = true := by have := hh.2.2.1; simpa only [D.ok] using this
      rw [Bool.eq_iff_iff, any_py hh.1 h1]
      simp
    · cases h
  · cases h
section
variable {X : Cx} {ρ ρ1 ρ2 : Env} {a b : Expr} {pos : Pos} {p : Bool} {d u : D}
end
end DL

namespace DL
open PySem PySem.Spec PyProof.Rows L2
/-! ### o.m( *e), o an object of ours -/
section
variable {X : Cx} {ρ ρ' ρ0 ρ1 ρ2 ρ3 : Env} {e a b c : Expr} {es : List Expr} {x y z : VD} {xs ys : List VD} {pos apos cpos pp spos : Pos} {p q : Bool} {ds ds' : List D} {u u' d d' w rr : D} {n m : Str} {R : FSpec} {C : Addr} {nms : List Str} {fxs : List VD} {o : Nat}
/-- a method that is bound, too -/
structure BMs (P : Program) (w : World) (K : PySem.W.Frag) (mg : Str → Option Value) (base : Heap) (A : Around) (C : Addr) (m : Str) (R : FSpec) : Prop where
  cl : Cls K C
  ex : ∃ f j, FnR P w K mg base CX0 j f (spF K R) ∧ Room j A ∧ BMeth K C m f
/-! ### d.get(key, e), d a dict of the module with text keys -/
end
end DL

namespace DL
open PySem PySem.Spec PyProof.Rows L2
/-! ### match t: case [a, *b] if guard: .. case _: .., t a tuple of one item or more -/
section
variable {prog : Program} {w : World} {A : Around} {E : Value → Shared → Prop} {s : Shared}
end
section
variable {X : Cx} {ρ ρ1 ρ2 : Env} {sub g : Expr} {b1 b2 r : List Stmt} {p1 p2 p3 p4 pos : Pos} {n1 n2 : Str} {d x y : D} {ds : List D} {p : Bool} {k : Kn}
end
end DL
namespace DL
open PySem PySem.Spec PyProof.Rows L2
/-! ### try: .. finally: .., nothing raises -/
end DL

namespace DL
open PySem PySem.Spec PyProof.Rows L2
/-! ### objects of ours by a class method -/
section
variable {X : Cx} {E : XK} {ρ ρ0 ρ1 ρ2 : Env} {a b e : Expr} {es : List Expr} {d u rr w : D} {C : Addr} {m n f : Str} {pos apos pp spos : Pos} {xs : List VD} {ds ds' dt : List D} {ns : List Str} {p : Bool} {o : OD}
/-- C.m(e, ..) gives a new object of ours -/
structure CCOs (P : Program) (w : World) (K : PySem.W.Frag) (mg : Str → Option Value) (base : Heap) (A : Around) (C : Addr) (m : Str) (R : OSpec) : Prop where
  cr : ClX.CRead K C (.type "type")
  ex : ∃ f j q, FnR P w K mg base CX0 j f (spO K R) ∧ Room j A ∧ ClX.CMet K C (.type "type") m q f
end
/-! a tuple's first item and the rest; lists of one, two -/
section
variable {X : Cx} {ρ ρ1 ρ2 : Env} {a e : Expr} {u d rr : D} {ds : List D} {C : Addr} {m : Str} {pos apos spos : Pos} {o : Nat} {nms : List Str} {fxs : List VD} {R : FSpec}
end
end DL

namespace DL
open PySem PySem.Spec PyProof.Rows L2
/-! ### a list of ours is compared and stays ours -/
section
variable {X : Cx} {ρ ρ1 ρ2 : Env} {a b : Expr} {pos : Pos} {p : Bool} {d : D} {ds : List D} {o : Nat}
end
end DL

namespace DL
open PySem PySem.Spec PyProof.Rows L2
/-! ### a list of ours is looked at while e runs -/
section
variable {X : Cx} {ρ ρ1 : Env} {e : Expr} {n : Nat} {w w' : D} {ds0 : List D}
theorem ed_lookL (hn : ρ.ow[n]? = some (some (.lst ds0))) (he : ED X (ρ.vw n (.lst ds0)) e (.d w) ρ1) (hf : dFlat w = some w') (hs : ∀ ds, w ≠ .lst ds) : ED X ρ e (.d w') ρ := by
  refine ⟨fun pins s σ H Q I ⟨fr, S, ad, A, kk⟩ => (pe_lock he).run pins s σ H Q I ?_⟩
  obtain ⟨l, ho, e1, e2, e3, e4, e5⟩ := A.own n _ hn
  cases ho <;> first | exact e4.elim | skip
  rename_i vs0
  have e4 : RpAll X.K S vs0 ds0 := e4
  refine ⟨l, .lst vs0, e3, trivial, fun od => ?_⟩
  have eS : Ex S (upd S l (.frz od (.lst vs0))) := .new e2
  have eH : Ex (upd S l (.frz od (.lst vs0))) (upd H l (.frz od (.lst vs0))) := A.grow.sh.both
  have rp : Rp X.K (upd S l (.frz od (.lst vs0))) (.ref l) (.lst ds0) := .lst (.inl (.inr ⟨od, upd_same⟩)) (e4.mono eS)
  refine ⟨⟨[], _, _⟩, _, [], A.view e1 eS eH rp, fun S2 H2 ad2 v st2 A2 rv => ?_⟩
  have gr : Grow [] (upd S l (.frz od (.lst vs0))) (upd H l (.frz od (.lst vs0))) S2 H2 := A2.grow
  have hl2 : H2 l = some (.frz od (.lst vs0)) := gr.h l _ upd_same (by simp)
  have ew : w = w' := by
    cases w <;> simp only [dFlat] at hf <;> first | (split at hf <;> first | exact Option.some.inj hf | cases hf) | skip
  refine ⟨hl2, look_back (w' := w') A gr rfl (fun a ha => upd_ne ha) (fun a ha => upd_ne ha) (by rw [upd_same]; exact e3.symm) e1 hf rv.dd (fun ds ed ev => ?_) fun S' st R' r => ?_⟩
  · exact absurd ed (hs ds)
  · subst ew
    exact kk S' _ ad v st R' r
end
end DL

namespace DL
open PySem PySem.Spec PyProof.Rows L2
/-! ### dicts whose keys are tuples, as data: list(d), d.items(), len -/
section
variable {X : Cx} {ρ ρ1 : Env} {d u w : D} {e tg : Expr} {apos pos : Pos} {m : TM}
end
section
variable {P : Program} {w : World} {K : PySem.W.Frag} {d : Addr} {o : Obj} {es : Array DictEntry} {ep : Nat}
end
section
variable {X : Cx} {ρ ρ1 : Env} {d u w : D} {e tg : Expr} {apos pos tpos : Pos} {m : TM} {elts : List Expr} {kk : Nat} {ds : List D}
theorem RT.at {K : PySem.W.Frag} {S : Hp} : ∀ {kvs : List (List Key × V)} {m : TM} {i : Nat} {k : List Key} {v : V}, RT K S kvs m → kvs[i]? = some (k, v) → ∃ d, m[i]? = some (k, d) ∧ Rp K S v d
  | [], _, i, _, _, _, e => by simp at e
  | _ :: _, [], _, _, _, h, _ => h.elim
  | (k0, v0) :: kvs, (j, d0) :: m, 0, k, v, ⟨h1, h2, h3⟩, e => by
    cases e
    subst h1
    exact ⟨d0, rfl, h2⟩
  | (k0, v0) :: kvs, (j, d0) :: m, i + 1, k, v, ⟨h1, h2, h3⟩, e => RT.at (i := i) h3 e
end
end DL

namespace DL
open PySem PySem.Spec PyProof.Rows L2
/-! ### {k: v for ..}, its keys tuples -/
section
variable {X : Cx} {ρ ρ1 : Env} {tg iter kx vx : Expr} {ifs : List Expr} {pos : Pos} {Q : VK} {σ : L2.St} {l : List (Nat × D)} {vs : List Nat} {d u w : D} {ds : List D}
end
end DL

namespace DL
open PySem PySem.Spec PyProof.Rows L2
/-! ### [e for a in x for b in y] -/
section
variable {X : Cx} {ρ ρ1 : Env} {tg iter tg1 iter1 elt : Expr} {pos : Pos} {ds out : List D} {F : D → Option (List D × (D → Option D))} {gv gv1 vs vs1 : List Nat} {scope : Scope} {r : List Stmt} {k : Kn} {n : Str}
end
end DL

namespace DL
open PySem PySem.Spec PyProof.Rows L2
/-! ### dict(pairs), the keys tuples -/
section
variable {prog : Program} {w : World} {A : Around}
end
section
variable {X : Cx} {ρ ρ1 : Env} {d u w : D} {m : TM}
end
/-! ### d == {} -/
section
variable {prog : Program} {w : World} {A : Around}
end
section
variable {X : Cx} {ρ ρ1 : Env} {d u w : D} {a : Expr} {pos p2 : Pos} {m : TM} {p : Bool}
end
/-! ### len(d) -/
section
variable {X : Cx} {ρ : Env} {u w : D}
end
end DL

namespace DL
open PySem PySem.Spec PyProof.Rows L2 LamX
/-! ### [e(w) for w in closures]: the closures may change what is the maker's -/
/-- the slot jw holds the closure d; its maker's frame (slots σ) goes from ρ to ρ' -/
def tK (X : Cx) (σ : L2.St) (jw : Nat) (ρ : Env) (d r : D) (ρ' : Env) : TE := fun σ' H' Q => ∃ v0 fr S ad, σ'[jw]? = some (some v0) ∧ Rp X.K S v0 d ∧ Rel X.K fr ρ σ S H' ad ∧
  ∀ S2 H2 ad2 v, Step S ad S2 ad2 → Rel X.K fr ρ' σ S2 H2 ad2 → Rv X.K S2 ad2 v (.d r) → Q v H2
structure KStep (X : Cx) (bsc : Scope) (elt : Expr) (jw : Nat) (ρ : Env) (d r : D) (ρ' : Env) : Prop where
  m : ρ'.m = ρ.m
  sl : ρ'.sl = ρ.sl
  run : ∀ (pins : List (Addr × Obj)) (σ : L2.St), BlkI X pins σ bsc (fun Y => PE Y elt (tK X σ jw ρ d r ρ'))
inductive KChain (X : Cx) (bsc : Scope) (elt : Expr) (jw : Nat) : Env → List D → List D → Env → Prop
  | nil {ρ : Env} : KChain X bsc elt jw ρ [] [] ρ
  | cons {ρ ρ1 ρ2 : Env} {d r : D} {ds rs : List D} : KStep X bsc elt jw ρ d r ρ1 → KChain X bsc elt jw ρ1 ds rs ρ2 → KChain X bsc elt jw ρ (d :: ds) (r :: rs) ρ2
theorem KChain.length {X : Cx} {bsc : Scope} {elt : Expr} {jw : Nat} {ρ ρ' : Env} {ds rs : List D} (h : KChain X bsc elt jw ρ ds rs ρ') : rs.length = ds.length := by
  induction h with
  | nil => rfl
  | cons _ _ ih => simp [ih]
section
variable {X : Cx} {ρ ρ1 ρ2 : Env} {elt iter : Expr} {w : Str} {pw pos : Pos} {jw : Nat} {scope : Scope} {ds rs : List D} {u : D} {own : List (Str × Nat)}
end
/-! what is done with one closure -/
section
variable {X Y : Cx} {ρ ρ' : Env} {e b : Expr} {i jw je : Nat} {x a en xc w : Str} {g : Addr} {k : Nat} {pg : Arguments} {bg : List Stmt} {sg scope bsc : Scope} {Ng : List Str} {ps : Arguments} {ws : List V} {c : Value} {xx : XV}
  {pins : List (Addr × Obj)} {σ : L2.St} {H : Hp} {s : Shared} {p1 p2 p3 p4 p5 p6 p7 np hp tp p pw pos : Pos} {b0 : Stmt} {suite : List Stmt} {j1 : Nat} {r : D} {C : Addr} {cl : List (Str × Addr)} {fp : List Addr}
end
/-! d.get(k) -/
end DL

namespace DL
open PySem PySem.Spec PyProof.Rows L2
/-! ### new objects of ours are let go behind an expression -/
section
variable {X : Cx} {ρ ρ0 ρ1 : Env} {e : Expr} {p : Bool} {d : D}
theorem step_take {K : PySem.W.Frag} {fr : Fr} {σ : L2.St} {S S' H : Hp} {ad ad' : List Addr} {n : Nat} (R : Rel K fr ρ σ S H ad) (st : Step S ad S' ad') (hn : ρ.ow.length ≤ n) : Step S ad S' (ad'.take n) := by
  obtain ⟨s, more, rfl⟩ := st
  refine ⟨s, more.take (n - ad.length), ?_⟩
  rw [List.take_append, List.take_of_length_le (by rw [R.al]; exact hn)]
theorem TD.drop (h : TD X ρ e p ρ1) (w : Wk ρ1 ρ0) (hl : LocOk ρ0) (hn : ρ.ow.length ≤ ρ0.ow.length) : TD X ρ e p ρ0 :=
  td_of h fun σ H Q ⟨fr, S, ad, R, k⟩ => ⟨fr, S, ad, R, fun S' H' ad' st R' => k S' H' _ (step_take R st hn) (R'.wk w hl)⟩
theorem ED.drop (h : ED X ρ e (.d d) ρ1) (w : Wk ρ1 ρ0) (hl : LocOk ρ0) (hn : ρ.ow.length ≤ ρ0.ow.length) : ED X ρ e (.d d) ρ0 :=
  ed_of h fun σ H Q ⟨fr, S, ad, R, k⟩ => ⟨fr, S, ad, R, fun S' H' ad' v st R' rv => k S' H' _ v (step_take R st hn) (R'.wk w hl) (.d rv.dd)⟩
theorem TW.drop (h : TW X ρ e p ρ1) (w : Wk ρ1 ρ0) (hl : LocOk ρ0) (hn : ρ.ow.length ≤ ρ0.ow.length) : TW X ρ e p ρ0 :=
  tw_of h fun σ H Q ⟨fr, S, ad, R, k⟩ => ⟨fr, S, ad, R, fun S' H' ad' st R' => k S' H' _ (step_take R st hn) (R'.wk w hl)⟩
end
/-! ### a class method with *rest that gives a new object -/
section
variable {P : Program} {w : World} {K : PySem.W.Frag} {mg : Str → Option Value} {base : Heap} {x qual : Str} {params : Arguments} {body : List Stmt} {scope : Scope} {f : Addr} {fd : FuncData} {N : List Str} {j : Nat} {R : OSpec} {p1 p2 pv : Str}
end
end DL

namespace DL
open PySem PySem.Spec PyProof.Rows L2
/-! ### a, b = a list -/
section
variable {X : Cx} {ρ ρ1 : Env} {es : List Expr} {pos : Pos}
end
end DL

namespace DL
open PySem PySem.Spec PyProof.Rows L2
/-! ### one and the same data, bools within, is equal -/
section
variable {X : Cx} {ρ ρ1 ρ2 : Env} {a b : Expr} {pos : Pos} {p : Bool} {d d' : D}
end
end DL

namespace DL
open PySem PySem.Spec PyProof.Rows L2
/-! ### abs -/
section
variable {X : Cx} {ρ : Env} {d w : D}
/-! sum of a list of ints -/
end
end DL

namespace DL
open PySem PySem.Spec PyProof.Rows L2
section
variable {X : Cx} {ρ ρ1 ρ2 ρ3 : Env} {e a b : Expr} {st : Stmt} {r : List Stmt} {k : Kn} {pos apos cpos tpos : Pos} {d d' w : D} {ds es : List D} {xs : List VD}
/-! ### i *= j, i //= j, o.f += e -/
/-! ### xs.extend(e), both of ours -/
/-! ### bytes -/
end
end DL

namespace DL
open PySem PySem.Spec PyProof.Rows L2
/-! ### texts -/
theorem RpAll.strs {K : PySem.W.Frag} {S : Hp} : ∀ {ns : List Str} {vs : List V}, RpAll K S vs (ns.map D.str) → vs = ns.map V.str
  | [], vs, h => by cases h; rfl
  | n :: ns, vs, h => by
    cases h with
    | cons r t => rw [r.str_inv, RpAll.strs t]; rfl
theorem rp_strs {K : PySem.W.Frag} {S : Hp} : ∀ l : List Str, RpAll K S (l.map V.str) (l.map D.str)
  | [] => .nil
  | i :: l => .cons (.str i) (rp_strs l)
section
variable {X : Cx} {ρ ρ1 ρ2 ρ3 : Env} {e a b : Expr} {es : List Expr} {pos apos : Pos} {d d' w : D} {ds : List D}
/-! text.split(sep), sep.join(texts) -/
def dSplit : D → D → Option D
  | .str x, .str y => if (y.length == 0) = false ∧ x.length + 2 ≤ sizeLine then some (.lst ((Txt.split x y).map D.str)) else none
  | _, _ => none
theorem ed_splitM (ha : ED X ρ a (.d d) ρ1) (hb : ED X ρ1 b (.d d') ρ2) (h : dSplit d d' = some w) (hs : starEach [b] X.env = [(false, eval b X.env)]) (hbase : attributeBase a "split" X.env (eval a X.env) = eval a X.env) (hline : (apos.endLine == pos.line) = true) :
    ED X ρ (.Call (.Attribute a "split" apos) [b] [] pos) (.d w) ρ2 := by
  unfold dSplit at h
  split at h
  · split at h
    · rename_i hc
      cases h
      refine ed_of (pe_split ha hb hs hbase hline) fun σ H Q ⟨fr, S, ad, A, kk⟩ => ⟨fr, S, ad, A, fun S1 H1 ad1 v1 st1 A1 r1 => ⟨⟨_, r1.ds⟩, fr, S1, ad1, A1, fun S2 H2 ad2 v2 st2 A2 r2 => ?_⟩⟩
      refine ⟨_, _, r1.ds, by rw [r2.ds], hc.1, hc.2, fun p hp => ?_⟩
      obtain ⟨A3, st3⟩ := A2.newS (o := .lst ((Txt.split _ _).map V.str)) hp
      exact kk _ _ ad2 _ ((st1.trans st2).trans st3) A3 (.d (.lst (SqL.of upd_same) (rp_strs _)))
    · cases h
  · cases h
def dJoin : D → D → Option D
  | .str x, .lst ds => (decStrs ds).bind fun ys => if (ys.map (·.length)).sum + ys.length * x.length ≤ 16777216 then some (.str (Txt.join x ys)) else none
  | _, _ => none
theorem ed_joinM (ha : ED X ρ a (.d d) ρ1) (hb : ED X ρ1 b (.d d') ρ2) (h : dJoin d d' = some w) (hs : starEach [b] X.env = [(false, eval b X.env)]) (hbase : attributeBase a "join" X.env (eval a X.env) = eval a X.env) (hline : (apos.endLine == pos.line) = true) :
    ED X ρ (.Call (.Attribute a "join" apos) [b] [] pos) (.d w) ρ2 := by
  unfold dJoin at h
  split at h
  · obtain ⟨ys, h1, h⟩ := bnd h
    split at h
    · rename_i hc
      cases h
      obtain rfl := decStrs_ok h1
      refine ed_of (pe_join ha hb hs hbase hline) fun σ H Q ⟨fr, S, ad, A, kk⟩ => ⟨fr, S, ad, A, fun S1 H1 ad1 v1 st1 A1 r1 => ⟨⟨_, r1.ds⟩, fr, S1, ad1, A1, fun S2 H2 ad2 v2 st2 A2 r2 => ?_⟩⟩
      obtain ⟨p, vs, e1, e2, e3⟩ := r2.dd.lst_inv
      have e4 := e3.strs
      subst e4
      exact ⟨_, p, ys, r1.ds, by rw [e1], .inl (ex_l A2.grow.sh e2), hc, kk _ _ ad2 _ (st1.trans st2) A2 (.d (.str _))⟩
    · cases h
  · cases h
/-! f-strings -/
def dFmt : D → Option D
  | .str y => if y.length ≤ sizeLine then some (.str y) else none
  | .int i => if i.natAbs.log2 < 1920 then some (.str (toString i)) else none
  | _ => none
theorem ed_fmtM (ha : ED X ρ a (.d d) ρ1) (h : dFmt d = some w) : ED X ρ (.FormattedValue a (-1) none pos) (.d w) ρ1 := by
  unfold dFmt at h
  split at h
  · split at h
    · rename_i hc
      cases h
      exact ed_of (pe_fmt ha) fun σ H Q ⟨fr, S, ad, A, kk⟩ => ⟨fr, S, ad, A, fun S1 H1 ad1 v1 st1 A1 r1 => .inl ⟨_, r1.ds, hc, kk _ _ ad1 _ st1 A1 (.d (.str _))⟩⟩
    · cases h
  · split at h
    · rename_i hc
      cases h
      exact ed_of (pe_fmt ha) fun σ H Q ⟨fr, S, ad, A, kk⟩ => ⟨fr, S, ad, A, fun S1 H1 ad1 v1 st1 A1 r1 => .inr ⟨_, r1.di, hc, kk _ _ ad1 _ st1 A1 (.d (.str _))⟩⟩
    · cases h
  · cases h
inductive JD (X : Cx) : Env → List Expr → List D → Env → Prop
  | nil {ρ : Env} : JD X ρ [] [] ρ
  | cons {ρ ρ1 ρ2 : Env} {e : Expr} {es : List Expr} {d : D} {ds : List D} : ED X ρ e (.d d) ρ1 → JD X ρ1 es ds ρ2 → JD X ρ (e :: es) (d :: ds) ρ2
def catS (acc : Str) : List Str → Str
  | [] => acc
  | y :: ys => catS (acc ++ y) ys
def fitS (acc : Str) : List Str → Prop
  | [] => True
  | y :: ys => (acc ++ y).length ≤ sizeLine ∧ fitS (acc ++ y) ys
open Classical in
noncomputable def dFstr (ds : List D) : Option D := (decStrs ds).bind fun ys => if fitS Str.empty ys then some (.str (catS Str.empty ys)) else none
theorem JD.pj : ∀ {es : List Expr} {ρ ρ2 : Env} {ys : List Str}, JD X ρ es (ys.map D.str) ρ2 → ∃ ts, PJ X es ts ∧ ∀ (acc : Str) (σ : L2.St) (H : Hp) (Q : Str → Hp → Prop), fitS acc ys →
    (∃ fr S ad, Rel X.K fr ρ σ S H ad ∧ ∀ S' H' ad', Step S ad S' ad' → Rel X.K fr ρ2 σ S' H' ad' → Q (catS acc ys) H') → tJs ts acc σ H Q
  | [], ρ, ρ2, ys, h => by
    cases ys with
    | nil =>
      cases h
      exact ⟨[], .nil, fun acc σ H Q _ ⟨fr, S, ad, A, k⟩ => k S H ad (.refl _ _) A⟩
    | cons y ys => cases h
  | e :: es, ρ, ρ2, ys, h => by
    cases ys with
    | nil => cases h
    | cons y ys =>
      cases h with
      | cons h1 h2 =>
        rename_i ρ1
        obtain ⟨ts, p1, p2⟩ := JD.pj h2
        refine ⟨tE X.K ρ (.d (.str y)) ρ1 :: ts, .cons h1 p1, fun acc σ H Q hf ⟨fr, S, ad, A, k⟩ => ?_⟩
        refine ⟨fr, S, ad, A, fun S1 H1 ad1 v1 st1 A1 r1 => ⟨y, r1.ds, hf.1, p2 (acc ++ y) σ H1 Q hf.2 ⟨fr, S1, ad1, A1, fun S' H' ad' st A' => k S' H' ad' (st1.trans st) A'⟩⟩⟩
theorem ed_fstr {e1 e2 : Expr} (h : JD X ρ (e1 :: e2 :: es) ds ρ1) (hz : dFstr ds = some w) : ED X ρ (.JoinedStr (e1 :: e2 :: es) pos) (.d w) ρ1 := by
  obtain ⟨ys, h1, hz2⟩ := bnd hz
  clear hz
  obtain rfl := decStrs_ok h1
  split at hz2
  · rename_i hf
    cases hz2
    obtain ⟨ts, p1, p2⟩ := h.pj
    exact ed_of (pe_joined p1) fun σ H Q ⟨fr, S, ad, A, kk⟩ => p2 _ σ H _ hf ⟨fr, S, ad, A, fun S' H' ad' st A' => kk S' H' ad' _ st A' (.d (.str _))⟩
  · cases hz2
/-! int(text), len(text), text[i], c in text -/
def dIntX : D → Option D
  | .str x => (PySem.intText? x).bind fun n => if x.length ≤ 640 then some (.int n) else none
  | d => dInt d
theorem cb_intX (h : dIntX d = some w) : CBR X (.type "int") ρ [.d d] (.d w) ρ := by
  cases d with
  | str x =>
    obtain ⟨n, h1, h⟩ := bnd h
    split at h
    · rename_i hc
      cases h
      refine ⟨_, call_int_str, fun fr σ S H ad vs Q A r0 k => ?_⟩
      obtain ⟨v, rfl, r⟩ := rv1 r0
      exact ⟨_, _, by rw [r.ds], h1, hc, k _ _ _ _ (.refl _ _) A (.d (.int _))⟩
    · cases h
  | _ => exact cb_intM h
def dLenX : D → Option D
  | .str x => if x.length ≤ sizeLine then some (.int x.length) else none
  | d => dLen d
theorem cb_lenX (h : dLenX d = some w) : CBR X (.builtin "len") ρ [.d d] (.d w) ρ := by
  cases d with
  | str x =>
    simp only [dLenX] at h
    split at h
    · rename_i hz
      cases h
      refine ⟨_, call_len, fun fr σ S H ad vs Q A r0 k => ?_⟩
      obtain ⟨v, rfl, r⟩ := rv1 r0
      rw [r.ds]
      exact ⟨_, _, rfl, ⟨hz, rfl⟩, k _ _ _ _ (.refl _ _) A (.d (.int _))⟩
    · cases h
  | _ => exact cb_lenM h
def dIxX : D → D → Option D
  | .str z, .int i => if 0 ≤ i ∧ i < 2 ^ 63 ∧ i < z.length then (z.cps[i.toNat]?).bind fun c => some (.str ⟨#[c]⟩) else none
  | d, i => dIx d i
theorem ed_ixX (ha : ED X ρ a (.d d) ρ1) (hb : ED X ρ1 b (.d d') ρ2) (h : dIxX d d' = some w) (hs : PlainIxT b) : ED X ρ (.Subscript a b pos) (.d w) ρ2 := by
  unfold dIxX at h
  split at h
  · rename_i z i
    split at h
    · rename_i hc
      obtain ⟨c, h1, h⟩ := bnd h
      cases h
      refine ed_of (pe_item_str ha hb hs) fun σ H Q hk => two_ σ H Q _ hk fun fr S ad S1 H1 ad1 v1 v2 A st r1 r2 kk => ?_
      rw [r1.ds, r2.di]
      exact ⟨z, i, c, rfl, rfl, hc.1, hc.2.1, hc.2.2, h1, kk S1 H1 ad1 _ (.refl _ _) A (.d (.str _))⟩
    · cases h
  · exact ed_ixM ha hb h hs
def dInS : D → D → Option Bool
  | .str x, .str z => match x.cps.toList with
    | [c] => some (decide (c ∈ z.cps.toList))
    | _ => none
  | _, _ => none
theorem one_cp {x : Str} {c : Nat} (h : x.cps.toList = [c]) : x = ⟨#[c]⟩ := by
  obtain ⟨a⟩ := x
  have : a = #[c] := by
    apply Array.ext'
    simpa using h
  rw [this]
theorem ed_inS (ha : ED X ρ a (.d d) ρ1) (hb : ED X ρ1 b (.d d') ρ2) {p : Bool} (h : dInS d d' = some p) (hm : behindInMarks .In b = false) : ED X ρ (.Compare a [.In] [b] pos) (.d (.bl p)) ρ2 := by
  unfold dInS at h
  split at h
  · split at h
    · rename_i x z _ c hc
      cases h
      have e := one_cp hc
      subst e
      exact ed_of (pe_cmpR op_in_sign ha hb hm) fun σ H Q hk => two_ σ H Q _ hk fun fr S ad S1 H1 ad1 v1 v2 A st r1 r2 kk =>
        ⟨c, z, r1.ds, r2.ds, kk S1 H1 ad1 _ (.refl _ _) A (.d (.bl _))⟩
    · cases h
  · cases h
/-! for c in text -/
def dSeqX : D → Option (List D)
  | .str x => some (x.cps.toList.map fun c => .str ⟨#[c]⟩)
  | d => dSeq d
theorem walk_strD {K : PySem.W.Frag} {S0 : Hp} {x : Str} {G : Hp → Prop} : Walk (Its x) (x.cps.toList.map fun c => D.str ⟨#[c]⟩).length G (YD K S0 (x.cps.toList.map fun c => D.str ⟨#[c]⟩)) := by
  rw [List.length_map, Array.length_toList]
  refine ⟨fun i _ hi _ => hi, fun _ _ => Nat.le_refl _, fun i H v H' hi _ ⟨y1, c, y2, y3⟩ S _ _ => ⟨.str ⟨#[c]⟩, ?_, .inl ⟨y1, ?_⟩⟩⟩
  · rw [List.getElem?_map, Array.getElem?_toList, y2]; rfl
  · rw [y3]; exact .str _
theorem it_seqX {tg : Expr} (ha : ED X ρ e (.d d) ρ1) (h : dSeqX d = some ds) : ItD X ρ tg e ds ρ1 := by
  cases d with
  | str x =>
    cases h
    refine it_of (pi_str ha) fun σ H Q ⟨fr, S, ad, R, k⟩ => ⟨fr, S, ad, R, fun S1 H1 ad1 v st1 R1 r1 => ⟨x, r1.ds, k S1 H1 ad1 _ st1 R1 walk_strD⟩⟩
  | _ => exact it_seqM ha h
end
end DL

namespace DL
open PySem PySem.Spec PyProof.Rows L2
section
variable {X : Cx} {ρ ρ1 : Env} {d w : D}
/-! ### list of a dict's keys -/
end
end DL

namespace DL
open PySem PySem.Spec PyProof.Rows L2
section
open PySem.Builtin PySem.Builtin.Float
/-! ### {i:>2}, {i:>13,}, {text:>3} -/
section
variable {M : Model} {A : Around} {E : Value → Shared → Prop} {s : Shared} {X T : PySem.Str}
end
end
section
variable {X : Cx} {ρ ρ1 ρ2 ρ3 : Env} {e a b c : Expr} {pos apos : Pos} {d d' u w : D}
/-! str(n) -/
def dStrI : D → Option D
  | .int i => if i.natAbs.log2 < 1920 then some (.str (toString i)) else none
  | _ => none
theorem cb_strI (h : dStrI d = some w) : CBR X (.type "str") ρ [.d d] (.d w) ρ := by
  cases d <;> simp only [dStrI] at h <;> try cases h
  split at h
  · rename_i hz
    cases h
    refine ⟨_, call_str_int, fun fr σ S H ad vs Q A r0 k => ?_⟩
    obtain ⟨v, rfl, r⟩ := rv1 r0
    exact ⟨_, by rw [r.di], hz, k _ _ _ _ (.refl _ _) A (.d (.str _))⟩
  · cases h
/-! texts put together, repeated, cut -/
def dAddS : D → D → Option D
  | .str x, .str y => if x.length + y.length ≤ sizeLine then some (.str (x ++ y)) else none
  | d, e => dAddX d e
theorem ed_addS (ha : ED X ρ a (.d d) ρ1) (hb : ED X ρ1 b (.d d') ρ2) (h : dAddS d d' = some w) : ED X ρ (.BinOp a .Add b pos) (.d w) ρ2 := by
  unfold dAddS at h
  split at h
  · split at h
    · rename_i hz
      cases h
      exact ed_of (pe_op op_add_str ha hb) fun σ H Q hk => two_ σ H Q _ hk fun fr S ad S1 H1 ad1 v1 v2 A st r1 r2 kk =>
        ⟨_, _, r1.ds, r2.ds, hz, kk S1 H1 ad1 _ (.refl _ _) A (.d (.str _))⟩
    · cases h
  · exact ed_addX ha hb h
def dCutS (u : D) (i j : Option Int) : Option D := match u with
  | .str z => if z.length ≤ sizeLine then some (.str (cutS z i j)) else none
  | u => dCutX u i j
theorem ed_sliceS {lo hi : Option Expr} {i j : Option Int} {p2 : Pos} (ha : ED X ρ a (.d d) ρ1) (hl : PD X ρ1 lo i ρ2) (hh : PD X ρ2 hi j ρ3) (h : dCutS d i j = some w) : ED X ρ (.Subscript a (.Slice lo hi none p2) pos) (.d w) ρ3 := by
  unfold dCutS at h
  split at h
  · split at h
    · rename_i hz
      cases h
      refine ed_of (pe_slice sl_str ha hl hh) fun σ H Q ⟨fr, S, ad, A, kk⟩ => ⟨fr, S, ad, A, fun S1 H1 ad1 v st1 A1 r1 => ⟨fr, S1, ad1, A1, fun S2 H2 ad2 st2 A2 => ⟨fr, S2, ad2, A2, fun S3 H3 ad3 st3 A3 => ?_⟩⟩⟩
      rw [r1.ds]
      exact ⟨_, rfl, hz, kk S3 H3 ad3 _ ((st1.trans st2).trans st3) A3 (.d (.str _))⟩
    · cases h
  · exact ed_sliceX ha hl hh h
/-! "0" <= c <= "9" -/
def dLeS : D → D → Option Bool
  | .str x, .str y => some (!decide (y.cps.toList < x.cps.toList))
  | _, _ => none
theorem td_leleS {p q : Bool} (ha : ED X ρ a (.d d) ρ) (hb : ED X ρ b (.d d') ρ) (hc : ED X ρ c (.d w) ρ) (h1 : dLeS d d' = some p) (h2 : dLeS d' w = some q) (hm : lastMarks [.LtE, .LtE] [b, c] = false) : TD X ρ (.Compare a [.LtE, .LtE] [b, c] pos) (p && q) ρ := by
  unfold dLeS at h1 h2
  split at h1
  · split at h2
    · rename_i e1
      cases e1
      have h1 := sm h1
      have h2 := sm h2
      subst h2
      refine td_of (pt_chain op_le_str op_le_str ha hb hc hm) fun σ H Q ⟨fr, S, ad, R, kk⟩ => ⟨fr, S, ad, R, fun S1 H1 ad1 v1 st1 R1 r1 => ⟨fr, S1, ad1, R1, fun S2 H2 ad2 v2 st2 R2 r2 => ?_⟩⟩
      rw [r1.ds, r2.ds]
      refine ⟨_, _, rfl, rfl, _, rfl, ?_⟩
      rw [h1]
      cases p with
      | false => exact iteF ⟨_, rfl, kk S2 H2 ad2 (st1.trans st2) R2⟩
      | true =>
        refine iteT ⟨fr, S2, ad2, R2, fun S3 H3 ad3 v3 st3 R3 r3 => ?_⟩
        rw [r3.ds]
        exact ⟨_, _, rfl, rfl, _, rfl, kk S3 H3 ad3 ((st1.trans st2).trans st3) R3⟩
    · cases h2
  · cases h1
end
end DL

namespace DL
open PySem PySem.Spec PyProof.Rows L2
section
variable {X : Cx} {E : XK} {ρ ρ1 ρ2 : Env} {a e e1 e2 : Expr} {es : List Expr} {r : List Stmt} {n m f g : Str} {C fI : Addr} {x : XV} {p pp p2 pos pos' : Pos} {P N : Env → Prop} {i j : Int}
/-! ### raising within e.f and b(e) -/
theorem ex_attr (ha : EX X E ρ a x ρ1) (hb : attributeBase a f X.env (eval a X.env) = eval a X.env) : EX X E ρ (.Attribute a f pos) x ρ1 := by
  refine ⟨fun pins s σ H Q I h => attr_of hb (thn (ha.run pins s σ H (fun _ _ => False) I h) fun v s1 z => ?_)⟩
  obtain ⟨_, _, _, _, z⟩ := z
  exact z.elim
theorem ex_blt {id : String} (ha : AX X E ρ (e :: es) x ρ1) (hm : X.mg n = none) (hv : bootBuiltins n = some (.builtin id)) (hg : Gl X n) (hn : n ≠ "__name__" := by decide) (hdb : (n == ("__debug__" : Str)) = false := by decide)
    (he : starEach (e :: es) X.env = (false, eval e X.env) :: starEach es X.env := by rfl) (hpl : (backTo pos (starEach es X.env)).any (·.1) = false := by rfl) : EX X E ρ (.Call (.Name n pp) (e :: es) [] pos) x ρ1 := by
  have hc : CallR X (.builtin id) (fun _ _ _ => False) := fun _ _ _ _ _ _ _ _ _ h => h.elim
  exact ex_of (pe_callB hc hg hm hv ha hn hdb he hpl) fun σ H Q h => h
/-! ### exceptions with two whole numbers -/
def spI2 (K : PySem.W.Frag) (f g : Str) : Sp := fun vs H Q _ => ∃ (a C : Addr) (i j : Int), vs = [.ref a, .int i, .int j] ∧ i.natAbs < 10 ^ 64 ∧ j.natAbs < 10 ^ 64 ∧ OexC K C ∧ PySem.W.findIn K (.ref C) f = some none ∧ PySem.W.findIn K (.ref C) g = some none ∧ H a = some (exo a C none) ∧
  ∀ dx, H dx = none → dx ≠ a → Q .non (upd (upd (upd H dx (exd dx [(f, .int i)])) a (exo a C (some dx))) dx (exd dx [(g, .int j), (f, .int i)]))
structure XC2 (P : Program) (w : World) (K : PySem.W.Frag) (mg : Str → Option Value) (base : Heap) (A : Around) (C : Addr) (f g : Str) : Prop where
  T : OexC K C
  no : PySem.W.findIn K (.ref C) f = some none
  no2 : PySem.W.findIn K (.ref C) g = some none
  ex : ∃ fI k fd ps, PySem.W.findIn K (.ref C) "__init__" = some (some (.ref fI)) ∧ PySem.W.typeIn K (.ref fI) = some (.type "function") ∧ FnOk P w K mg base CX0 k fI fd ps (spI2 K f g) ∧ Room (k + 1) A ∧ Binds K fd ps []
/-- raise C(e1, e2), both ints -/
theorem sx_raise2 (hc : X.calm = true) (tk : Lets X E) (T : XC2 X.prog X.w X.K X.mg X.base X.A C f g) (hm : X.mg n = some (.ref C)) (hg : Gl X n) (he : ED X ρ e1 (.d (.int i)) ρ1) (he2 : ED X ρ1 e2 (.d (.int j)) ρ2) (hi : i.natAbs < 10 ^ 64) (hj : j.natAbs < 10 ^ 64) (hp : P ρ2) (hdb : (n == ("__debug__" : Str)) = false := by decide)
    (hst2 : starEach [e2] X.env = (false, eval e2 X.env) :: starEach [] X.env := by rfl) (hst : starEach [e1, e2] X.env = (false, eval e1 X.env) :: starEach [e2] X.env := by rfl) :
    SXs X E ρ (.Raise (some (.Call (.Name n p) [e1, e2] [] pos')) none pos :: r) ⟨C, [g, f], [.int j, .int i]⟩ P N := by
  obtain ⟨fI, k, fd, ps, h1, h2, F, hr, hb⟩ := T.ex
  refine sx_end ⟨fun pins s σ H Dn I ⟨fr, S, ad, A, kk, kn⟩ => (ps_raise hc tk (pmk_oex (ds := []) (dvs := []) T.T h1 h2 F hr hb .nil CX0_pass hg hm (ad_cons he (ad_cons he2 ad_nil hst2) hst) hdb hst (by rw [hst2]; rfl))).run pins s σ H Dn I ?_⟩
  refine ⟨fr, S, ad, A, fun S1 H1 ad1 vs st1 A1 r1 => ?_⟩
  have ev : vs = [.int i, .int j] := by
    cases r1 with
    | cons r0 rr =>
      cases rr with
      | cons r2 rr2 =>
        cases rr2
        rw [r0.di, r2.di]
  subst ev
  refine ⟨by simp, fun a ha => ⟨a, C, i, j, rfl, hi, hj, T.T, T.no, T.no2, upd_same, fun dx h3 h4 => ⟨rfl, dx, [(g, .int j), (f, .int i)], ?_, upd_same, ?_, ?_⟩⟩⟩
  · rw [upd_ne (fun z => h4 z.symm)]; exact upd_same
  · rw [upd_ne h4] at h3; exact h3
  · rw [upd_ne h4] at h3
    have eH : upd (del (upd (upd (upd (upd H1 a (exo a C none)) dx (exd dx [(f, .int i)])) a (exo a C (some dx))) dx (exd dx [(g, .int j), (f, .int i)])) a) dx (.xd [(g, .int j), (f, .int i)]) = upd H1 dx (.xd [(g, .int j), (f, .int i)]) := by
      funext b
      by_cases hb1 : b = dx
      · subst hb1; rw [upd_same, upd_same]
      · rw [upd_ne hb1, upd_ne hb1]
        by_cases hb2 : b = a
        · subst hb2; rw [del_same, ha]
        · rw [del_ne hb2, upd_ne hb1, upd_ne hb2, upd_ne hb1, upd_ne hb2]
    rw [eH]
    obtain ⟨A2, st2⟩ := A1.newS (p := dx) (o := .xd [(g, .int j), (f, .int i)]) h3
    exact kk ρ2 σ _ _ ad1 _ _ hp A2 ⟨rfl, .inr ⟨dx, [.int j, .int i], rfl, rfl, upd_same, .cons (.int j) (.cons (.int i) .nil)⟩⟩
/-- a text of the second and the third parameter -/
def JTxt2 (X : Cx) (J : Expr) : Prop := ∃ t : TE, PE X J t ∧ ∀ σ H Q (i j : Int), σ[1]? = some (some (.int i)) → σ[2]? = some (some (.int j)) → i.natAbs < 10 ^ 64 → j.natAbs < 10 ^ 64 → (∀ z : Str, Q (.str z) H) → t σ H Q
theorem jtxt4 {c1 c2 an bn : Str} {j1 j2 : Nat} {q1 q2 q3 q4 q5 q6 q7 : Pos} (hN : X.N[1]? = some an) (hv : Vis X.env.scope an) (hN2 : X.N[2]? = some bn) (hv2 : Vis X.env.scope bn) (h1 : c1.length ≤ 1000) (h2 : c2.length ≤ 1000) (hd : (an == ("__debug__" : Str)) = false) (hcd : (an == ("__classdict__" : Str)) = false) (hd2 : (bn == ("__debug__" : Str)) = false) (hcd2 : (bn == ("__classdict__" : Str)) = false) :
    JTxt2 X (.JoinedStr [.Constant (.str c1) j1 q1, .FormattedValue (.Name bn q2) (-1) none q3, .Constant (.str c2) j2 q5, .FormattedValue (.Name an q6) (-1) none q7] q4) := by
  refine ⟨_, pe_joined (.cons pe_str (.cons (pe_fmt (pe_var (i := 2) hN2 hv2 hd2 hcd2)) (.cons pe_str (.cons (pe_fmt (pe_var (i := 1) hN hv hd hcd)) .nil)))), fun σ H Q i j hs hs2 hi hj k => ?_⟩
  have l1 := small_len hi
  have l2 := small_len hj
  have e0 : Str.empty.length = 0 := rfl
  refine ⟨c1, rfl, ?_, .int j, hs2, .inr ⟨j, rfl, small_log hj, _, rfl, ?_, c2, rfl, ?_, .int i, hs, .inr ⟨i, rfl, small_log hi, _, rfl, ?_, k _⟩⟩⟩
  · rw [str_len_app, sizeLine_eq]; omega
  · rw [str_len_app, str_len_app, sizeLine_eq]; omega
  · rw [str_len_app, str_len_app, str_len_app, sizeLine_eq]; omega
  · rw [str_len_app, str_len_app, str_len_app, str_len_app, sizeLine_eq]; omega
end
section
variable {P : Program} {w : World} {K : PySem.W.Frag} {mg : Str → Option Value} {base : Heap} {qual sn an bn f g : Str} {params : Arguments} {scope : Scope} {fI : Addr} {fd : FuncData} {J : Expr} {p1 p2 p3 p4 p5 p6 p7 p8 p9 pa pb pc pd : Pos} {k : Nat}
theorem ok_init2 (F : FunD K "__init__" qual params [.Expr (.Call (.Attribute (.Name sn p1) "__init__" p2) [.Name "self" p3, J] [] p4) p5, .Assign [.Attribute (.Name "self" p6) f p7] (.Name an p8) p9, .Assign [.Attribute (.Name "self" pa) g pb] (.Name bn pc) pd] scope [] [] fI fd) (S : FnScope ["self", an, bn] ["self", an, bn] scope)
    (hg : scope.names.lookup sn = some .globalImplicit) (B : BaseC K mg sn) (v0 : Vis scope "self") (v1 : Vis scope an) (v2 : Vis scope bn)
    (hJ : ∀ (cdv : Value) (A : Around) (outer : List PySem.Env) (s : Shared) (H : Hp) (E : XK), JTxt2 (cxOf CX0 P w K mg base ["self", an, bn] qual scope fI cdv A outer s H E) J ∧
      starEach [.Name "self" p3, J] (cxOf CX0 P w K mg base ["self", an, bn] qual scope fI cdv A outer s H E).env = (false, eval (.Name "self" p3) (cxOf CX0 P w K mg base ["self", an, bn] qual scope fI cdv A outer s H E).env) :: starEach [J] (cxOf CX0 P w K mg base ["self", an, bn] qual scope fI cdv A outer s H E).env ∧
      starEach [J] (cxOf CX0 P w K mg base ["self", an, bn] qual scope fI cdv A outer s H E).env = (false, eval J (cxOf CX0 P w K mg base ["self", an, bn] qual scope fI cdv A outer s H E).env) :: starEach [] (cxOf CX0 P w K mg base ["self", an, bn] qual scope fI cdv A outer s H E).env ∧
      swapsWith (.Call (.Attribute (.Name sn p1) "__init__" p2) [.Name "self" p3, J] [] p4) none p5.line (cxOf CX0 P w K mg base ["self", an, bn] qual scope fI cdv A outer s H E).env = pure false ∧ swapsWith (.Name an p8) (some (.Attribute (.Name "self" p6) f p7)) p9.line (cxOf CX0 P w K mg base ["self", an, bn] qual scope fI cdv A outer s H E).env = pure false ∧
      swapsWith (.Name bn pc) (some (.Attribute (.Name "self" pa) g pb)) pd.line (cxOf CX0 P w K mg base ["self", an, bn] qual scope fI cdv A outer s H E).env = pure false ∧
      ∃ pl : Sem Bool, eval (.Call (.Attribute (.Name sn p1) "__init__" p2) [.Name "self" p3, J] [] p4) (cxOf CX0 P w K mg base ["self", an, bn] qual scope fI cdv A outer s H E).env = (do
        let ov ← eval (.Name sn p1) (cxOf CX0 P w K mg base ["self", an, bn] qual scope fI cdv A outer s H E).env
        standAt p2.atName
        let (f, first) ← holding [ov] (getMethod ov "__init__" pl)
        callWith p4 f first (backTo p4 (starEach [.Name "self" p3, J] (cxOf CX0 P w K mg base ["self", an, bn] qual scope fI cdv A outer s H E).env)) (backToKw p4 (keywordEach [] (cxOf CX0 P w K mg base ["self", an, bn] qual scope fI cdv A outer s H E).env))))
    (hd : (an == ("__debug__" : Str)) = false) (hcd : (an == ("__classdict__" : Str)) = false) (hd2 : (bn == ("__debug__" : Str)) = false) (hcd2 : (bn == ("__classdict__" : Str)) = false) (hdb : (sn == ("__debug__" : Str)) = false) : FnOk P w K mg base CX0 (k + 1) fI fd ["self", an, bn] (spI2 K f g) := by
  refine F.ok S (fun vs H Q E h => ?_) (fun cdv A outer s H vs Q E hr h => ?_)
  · obtain ⟨a, C, i, j, e, _⟩ := h
    rw [e]; rfl
  · obtain ⟨a, C, i, j, e, hi, hj, T, hno, hno2, ha, kq⟩ := h
    subst e
    obtain ⟨CS, mc, b1, b2, b3, b4⟩ := B.ex
    obtain ⟨⟨t, hp, ht⟩, s1, s2, s3, s4, s5, pl, hev⟩ := hJ cdv A outer s H E
    have pv0 : ∀ q : Pos, PE (cxOf CX0 P w K mg base ["self", an, bn] qual scope fI cdv A outer s H E) (.Name "self" q) (tVar 0) := fun q => pe_var (i := 0) rfl v0 (by decide) (by decide)
    have pv1 : ∀ q : Pos, PE (cxOf CX0 P w K mg base ["self", an, bn] qual scope fI cdv A outer s H E) (.Name an q) (tVar 1) := fun q => pe_var (i := 1) rfl v1 hd hcd
    have pv2 : ∀ q : Pos, PE (cxOf CX0 P w K mg base ["self", an, bn] qual scope fI cdv A outer s H E) (.Name bn q) (tVar 2) := fun q => pe_var (i := 2) rfl v2 hd2 hcd2
    refine ⟨_, pss_cons (ps_expr (pe_oinit (CS := CS) (mc := mc) hg b1 b2 b3 b4 (pa_cons (pv0 p3) (pa_cons hp pa_nil s2) s1) hdb hev s1 (by rw [s2]; rfl)) s3) (pss_cons (ps_ost (pv0 p6) (pv1 p8) s4) (pss_one (ps_ost (pv0 pa) (pv2 pc) s5))), ?_⟩
    refine ⟨.ref a, rfl, ht _ _ _ i j rfl rfl hi hj fun z => ?_⟩
    refine ⟨a, C, [.str z], rfl, by simp, T, ha, ?_⟩
    refine ⟨.int i, rfl, .ref a, rfl, a, C, rfl, T, hno, .inl ⟨ha, fun dx h1 h2 => ?_⟩⟩
    refine ⟨.int j, rfl, .ref a, rfl, a, C, rfl, T, hno2, .inr ⟨dx, [(f, .int i)], upd_same, ?_, by simp, kq dx h1 h2⟩⟩
    rw [upd_ne h2]; exact upd_same
end
/-! ### a comprehension that gives a list of ours -/
section
variable {K : PySem.W.Frag} {fr : Fr} {ρ : Env} {σ : L2.St} {S H : Hp} {ad : List Addr} {p : Addr}
theorem Rel.extOwn {vs : List V} {ds : List D} (R : Rel K (frD fr p (.lst vs)) ρ σ S H ad) (hM : p ∉ fr.M) (hS : fr.S p = none) (h0 : fr.H p = none) (hnp : p ∉ ad) (hr : RpAll K S vs ds) :
    Rel K fr { ρ with ow := ρ.ow ++ [some (.lst ds)] } σ S H (ad ++ [p]) ∧ Step S ad S (ad ++ [p]) ∧ (ad ++ [p])[ρ.ow.length]? = some p := by
  obtain ⟨hp, hSp⟩ := R.extAt hM hS (by intro _ h; cases h)
  have hst : Step S ad S (ad ++ [p]) := ⟨.refl _, [p], rfl⟩
  have hm : ρ.m ≤ ad.length := by
    have := congrArg List.length R.mm.2
    rw [List.length_take] at this
    have h2 : (frD fr p (.lst vs)).M.length = ρ.m := R.mm.1
    rw [h2] at this; omega
  refine ⟨⟨⟨R.grow.s, R.grow.sh, fun a u e hm => ?_, fun a h1 h2 h3 => ?_⟩, fun i x e => ?_, fun n u e => ?_, ⟨R.mm.1, ?_⟩, ?_, R.len, ?_, fun n hn => ?_, fun l hl => ?_⟩, hst, ?_⟩
  · have h : a ≠ p := fun z => by rw [z, h0] at e; cases e
    exact R.grow.h a u (by show upd fr.H p _ a = some u; rw [upd_ne h]; exact e) hm
  · have h : a ≠ p := fun z => h2 (z ▸ h0)
    exact R.grow.n a h1 (by show upd fr.H p _ a ≠ none; rw [upd_ne h]; exact h2) (fun xs => by show upd fr.H p _ a ≠ _; rw [upd_ne h]; exact h3 xs)
  · obtain ⟨v, e1, e2⟩ := R.slots i x e
    exact ⟨v, e1, e2.mono hst⟩
  · by_cases hn : n < ρ.ow.length
    · have e' : ρ.ow[n]? = some (some u) := by rw [← e]; exact (List.getElem?_append_left hn).symm
      obtain ⟨l, ho', e1, e2, e3, e4, e5⟩ := R.own n u e'
      have hl : l ≠ p := R.extNe hM e' e1
      exact ⟨l, ho', hst.get e1, e2, e3, e4.mono hst, fun hm => by
        have this : upd fr.H p _ l = none := e5 hm
        rw [upd_ne hl] at this; exact this⟩
    · have hlt := (List.getElem?_eq_some_iff.mp e).1
      simp at hlt
      have hn' : n = ρ.ow.length := by omega
      subst hn'
      have : u = .lst ds := by simpa using e.symm
      subst this
      exact ⟨p, .lst vs, by rw [← R.al]; simp, hSp, hp, hr, fun _ => h0⟩
  · rw [List.take_append_of_le_length hm]; exact R.mm.2
  · refine List.nodup_append.mpr ⟨R.nd, by simp, fun a ha b hb => ?_⟩
    have : b = p := by simpa using hb
    subst this
    exact fun z => hnp (z ▸ ha)
  · simp [R.al]
  · obtain ⟨o', e⟩ := R.ml n hn
    exact ⟨o', by rw [← e]; exact List.getElem?_append_left (List.getElem?_eq_some_iff.mp e).1⟩
  · rcases List.mem_append.mp hl with z | z
    · exact R.lv l z
    · have : l = p := by simpa using z
      subst this; rw [hp]; simp
  · rw [← R.al]; simp
end
section
variable {X : Cx} {ρ ρ1 : Env} {tg iter elt : Expr} {ifs : List Expr} {pos : Pos} {ds : List D} {f : D → Option (Option D)} {out : List D} {gv : List Nat} {scope : Scope} {own : List (Str × Nat)}
theorem lc_readO {gv vs : List Nat} {scope : Scope} (hgv : ∀ j ∈ gv, j ∈ vs) (I : Nat → List D → List (Option OD) → Prop) (h0 : I 0 [] ρ1.ow)
    (hs : ∀ i d acc ow, ds[i]? = some d → I i acc ow → LcTurn X scope gv vs ρ1 tg elt ifs (I (i + 1)) d acc ow) (hz : ds.length ≤ sizeLine) {out : List D} (hd : ∀ acc ow, I ds.length acc ow → acc = out ∧ ow = ρ1.ow)
    (hlen : ∀ i acc ow, I i acc ow → acc.length ≤ i) {σ : L2.St} {H : Hp} {Q : VK} (hq : tE X.K ρ (.loc ρ1.ow.length) { ρ1 with ow := ρ1.ow ++ [some (.lst out)] } σ H Q) :
    tLc (tI X.K ρ ds ρ1) (bG X scope gv tg) (bT X scope ifs) (bE X scope elt) vs σ H Q := by
  obtain ⟨fr, S, ad, R, kk⟩ := hq
  refine ⟨fr, S, ad, R, fun S1 H1 ad1 J st1 R1 w L hL => ?_⟩
  have hM : L ∉ fr.M := R1.notM' hL
  have h0' : fr.H L = none := R1.fr0 hL
  have hSL : fr.S L = none := R1.grow.s.back (R1.grow.sh.back hL)
  have hnL : L ∉ ad1 := fun z => R1.lv L z hL
  refine lc_it (g := bG X scope gv tg) (tt := bT X scope ifs) (te := bE X scope elt) (vs := vs) (σ := σ) (D := L) (Qd := fun H' => Q (.ref L) H') w
    (fun i H' => ∃ acc accv ow S' ad', I i acc ow ∧ Rel X.K (frD fr L (.lst accv)) { ρ1 with sl := wpE ρ1.sl vs, ow := ow } (wipe σ vs) S' H' ad' ∧ RpAll X.K S' accv acc ∧ Step S1 ad1 S' ad') ?_ ?_ ?_ ?_
  · exact ⟨[], [], ρ1.ow, S1, ad1, h0, (R1.ext hL).wiped vs, .nil, .refl _ _⟩
  · rintro i H' _ ⟨acc, accv, ow, S', ad', _, R', _, st'⟩
    exact st'.s.trans R'.grow.sh
  · rintro i xv H' H2 hlt ⟨acc, accv, ow, S', ad', hI, R', ra, st'⟩ hy
    obtain ⟨S2, d, hd1, st2, R2, rp⟩ := R'.item st'.s hy
    obtain ⟨sl2, p, ow3, hG, hT, hE, hF⟩ := hs i d acc ow hd1 hI
    refine ⟨_, _, _, hG, _, S2, ad', R2, .d rp, fun σ3 S3 H3 ad3 st3 R3 hl3 hj3 => ⟨wipe_eq (hl3.trans (wipe_length _ _)) hj3 hgv, _, _, _, hT, _, S3, ad3, R3, fun S4 H4 ad4 st4 R4 => ?_⟩⟩
    have back : ∀ {S5 : Hp} {H5 : Hp} {ad5 : List Addr} {ow5 : List (Option OD)}, Rel X.K (frD fr L (.lst accv)) { ρ1 with sl := sl2, ow := ow5 } σ3 S5 H5 ad5 → Step S2 ad' S5 ad5 → Rel X.K (frD fr L (.lst accv)) { ρ1 with sl := wpE ρ1.sl vs, ow := ow5 } (wipe σ vs) S5 H5 ad5 := by
      intro S5 H5 ad5 ow5 R5 st5
      refine ⟨R5.grow, fun j x e => ?_, R5.own, R5.mm, R5.nd, R2.len, R5.al, R5.ml, R5.lv⟩
      obtain ⟨v, e1, e2⟩ := R2.slots j x e
      exact ⟨v, e1, e2.mono st5⟩
    cases p with
    | false => exact iteF ⟨acc, accv, ow3, S4, ad4, hF rfl, back R4 (st3.trans st4), ra.mono ((st2.trans st3).trans st4).s, ((st'.trans st2).trans st3).trans st4⟩
    | true =>
      obtain ⟨e, ow4, hE1, hI4⟩ := hE rfl
      refine iteT ⟨_, _, _, hE1, _, S4, ad4, R4, fun S5 H5 ad5 v5 st5 R5 rv5 => ?_⟩
      obtain ⟨hp5, _⟩ := R5.extAt hM hSL
      refine ⟨accv, hp5, ?_, acc ++ [e], accv ++ [v5], ow4, S5, ad5, hI4, (back R5 ((st3.trans st4).trans st5)).extSet hM hSL, ?_, (((st'.trans st2).trans st3).trans st4).trans st5⟩
      · rw [ra.length]
        have := hlen i acc ow hI
        omega
      · exact (ra.mono (((st2.trans st3).trans st4).trans st5).s).append (.cons rv5.dd .nil)
  · rintro H' ⟨acc, accv, ow, S', ad', hI, R', ra, st'⟩
    obtain ⟨rfl, rfl⟩ := hd acc ow hI
    have ea : ad' = ad1 := by
      obtain ⟨more, e⟩ := st'.a
      have l1 := R'.al
      have l2 := R1.al
      have l3 := congrArg List.length e
      rw [List.length_append] at l3
      have l4 : more.length = 0 := by
        have : ad'.length = ρ1.ow.length := l1
        omega
      rw [e, List.length_eq_zero_iff.mp l4, List.append_nil]
    subst ea
    obtain ⟨R2, st2, e2⟩ := R'.extOwn hM hSL h0' hnL ra
    refine kk _ H' _ _ ((st1.trans st').trans st2) ⟨R2.grow, fun j x e => ?_, R2.own, R2.mm, R2.nd, R1.len, R2.al, R2.ml, R2.lv⟩ (.loc e2)
    obtain ⟨v, e1, e3⟩ := R1.slots j x e
    exact ⟨v, e1, e3.mono (st'.trans st2)⟩
/-- name = [elt for tg in iter if ..], the list ours -/
theorem sds_lcO {n : Str} {pos' spos : Pos} {r : List Stmt} {k : Kn} (i : Nat) (hi : ItD X ρ tg iter ds ρ1) (hf : lcG f ds = some out)
    (hs : ∀ d o, f d = some o → LcP X scope gv (own.map (·.2)) ρ1 tg elt ifs d o) (h : SDs X (Env.put { ρ1 with ow := ρ1.ow ++ [some (.lst out)] } i (.loc ρ1.ow.length)) r k)
    (hgv : ∀ j ∈ gv, j ∈ own.map (·.2)) (ok : BlkOk X.N X.env.scope scope own) (hN : X.N.Nodup) (hc : X.calm = true)
    (hi' : X.N[i]? = some n) (hyl : X.env.scope.names.lookup n = some .local) (hsw : swapsWith (.ListComp elt [⟨tg, iter, ifs, 0⟩] scope pos) (some (.Name n pos')) spos.line X.env = pure true) (hfs : ∀ x, foldedSetIterable iter X.env x = pure x) :
    SDs X ρ (.Assign [.Name n pos'] (.ListComp elt [⟨tg, iter, ifs, 0⟩] scope pos) spos :: r) k := by
  obtain ⟨hz, hf⟩ := lcG_ok hf
  obtain ⟨o, h1, h2⟩ := lcM_zip hf
  subst h2
  refine sds_cons (sd_of (ps_setLc hc hN hi' hyl hsw hi ok bG_ok bT_ok bE_ok hfs) fun Dn σ H ⟨fr, S, ad, R, kk⟩ => lc_readO hgv (fun i acc ow => acc = (ds.take i).filterMap o ∧ ow = ρ1.ow) ⟨by simp, rfl⟩ (fun i d acc ow hd ⟨e1, e2⟩ => ?_) hz (fun acc ow ⟨e1, e2⟩ => ⟨by rw [e1, List.take_length], e2⟩)
    (fun i acc ow ⟨e1, _⟩ => by rw [e1]; exact Nat.le_trans (List.length_filterMap_le _ _) (by simp; omega)) ⟨fr, S, ad, R, fun S1 H1 ad1 v st R1 r1 => kk.nx _ _ S1 H1 ad1 h (R1.setSl r1)⟩)
  have hm := List.mem_of_getElem? hd
  refine lcP_turn (hs d _ (h1 d hm)) e2 ⟨?_, rfl⟩
  rw [e1]
  have e3 : ds.take (i + 1) = ds.take i ++ [d] := by rw [List.take_add_one, hd]; rfl
  rw [e3, List.filterMap_append]
  congr 1
end
end DL

namespace DL
open PySem PySem.Spec PyProof.Rows L2
/-! ### a comprehension over two rows -/
section
variable {X : Cx} {ρ ρ1 ρ2 : Env} {a b : Expr} {C : Addr} {R : FSpec} {ns : List Str} {ds : List D} {d w : D} {p : Bool} {pos : Pos}
end
end DL

namespace DL
open PySem PySem.Spec PyProof.Rows L2
section
variable {X : Cx} {E : XK} {ρ ρ1 : Env} {a b : Expr} {r : List Stmt} {x : XV} {pos : Pos} {P N : Env → Prop}
end
end DL

namespace DL
open PySem PySem.Spec PyProof.Rows L2
section
variable {X : Cx} {ρ ρ1 ρ2 : Env} {a b : Expr} {d d' : D} {p : Bool} {pos : Pos}
/-! ### bytes compared -/
end
end DL

namespace DL
open PySem PySem.Spec PyProof.Rows L2 LamX
/-! ### a while loop whose turns may raise -/
section
variable {X : Cx} {E : XK} {ρ ρ' ρ0 ρ1 ρ2 ρ3 : Env} {e a b c tg iter elt : Expr} {pos : Pos} {p q : Bool} {r body : List Stmt} {x : XV} {P N : Env → Prop}
end
end DL

namespace DL
open PySem PySem.Spec PyProof.Rows L2 LamX
section
variable {X : Cx} {E : XK} {ρ ρ' ρ0 ρ1 ρ2 ρ3 : Env} {e a b c fe tg iter : Expr} {es : List Expr} {v y z : VD} {xs ys : List VD} {pos apos cpos pp : Pos} {r body : List Stmt} {n m : Str} {R : XSpec} {x : XV} {C : Addr} {nms : List Str} {fxs : List VD} {os os' : List OD} {ns : List Nat} {o : Nat} {P N : Env → Prop}
end
end DL

namespace DL
open PySem PySem.Spec PyProof.Rows L2 LamX
section
variable {X : Cx} {E : XK} {ρ ρ' ρ0 ρ1 ρ2 ρ3 : Env} {e a b c fe : Expr} {es : List Expr} {v y z : VD} {xs ys : List VD} {pos apos cpos pp spos : Pos} {n m : Str} {R : XSpec} {x : XV} {C : Addr} {nms : List Str} {fxs : List VD} {os os' : List OD} {ns : List Nat} {o : Nat} {u d : D} {ds : List D}
/-- a method that is bound, too, and raises -/
structure XBs (P : Program) (w : World) (K : PySem.W.Frag) (mg : Str → Option Value) (base : Heap) (A : Around) (C : Addr) (m : Str) (R : XSpec) : Prop where
  cl : Cls K C
  ex : ∃ f j, FnR P w K mg base (L2.CX P w) j f (spX K R) ∧ Room j A ∧ BMeth K C m f
end
end DL

namespace DL
open PySem PySem.Spec PyProof.Rows L2 LamX
/-! ### raising with the slots in sight (for try/finally) -/
section
variable {X : Cx} {E : XK} {W : WX} {ρ ρ' ρ0 ρ1 ρ2 ρ3 : Env} {e a b c tg iter elt : Expr} {es : List Expr} {pos apos cpos pp : Pos} {st f₀ : Stmt} {r body fs : List Stmt} {x : XV} {P P1 N : Env → Prop} {vs : List Nat} {ds : List D} {o : Nat} {xs ys : List VD} {nms : List Str} {fxs : List VD} {os os' : List OD} {ns : List Nat} {m : Str} {C : Addr} {R : XSpec}
theorem IsX.ex {K : PySem.W.Frag} {S S' H H' : Hp} {cls : Value} {d : Option Addr} (h : IsX K S H cls d x) (e : Ex S S') : IsX K S' H' cls d x := by
  obtain ⟨h1, h2⟩ := h
  refine ⟨h1, ?_⟩
  rcases h2 with h2 | ⟨dx, vs, a1, a2, a3, a4⟩
  · exact .inl h2
  · exact .inr ⟨dx, vs, a1, a2, e _ _ a3, a4.mono e⟩
end
end DL

namespace DL
open PySem PySem.Spec PyProof.Rows L2 LamX
section
variable {X : Cx} {E : XK} {W : WX} {ρ ρ' ρ0 ρ1 ρ2 ρ3 : Env} {e a b c tg iter elt : Expr} {es : List Expr} {pos apos cpos pp spos : Pos} {st f₀ : Stmt} {r body fs : List Stmt} {x : XV} {P P1 N : Env → Prop} {vs : List Nat} {ds : List D} {o : Nat} {xs ys : List VD} {nms : List Str} {fxs : List VD} {os os' : List OD} {ns : List Nat} {m : Str} {C : Addr} {R : XSpec} {u d : D}
end
end DL

/-! ### an exception that leaves a list comprehension -/
namespace LX
open PySem PySem.Spec PyProof.Rows L2 HandSPX
theorem raw_ne {p q : Addr} (h : p ≠ q) : ¬ ((rawInt p == rawInt q) = true) := by
  simp [rawInt]
  exact fun z => h (by exact_mod_cast z)
section
variable {M : Model} {A : Around} {E : Value → Shared → Prop} {s : Shared} {Z : Obj → Prop} {gd : Heap} {me : PySem.Env} {up l : List PySem.Env} {hm L x : Addr}
/-- noted by another frame, noted here -/
theorem note_other {Q : Unit → Shared → Prop} (bear : Steady Z) (stk : A.frames = some (me :: up)) (here : me.frame = some L) (ne : hm ≠ L) (held : HeldZ gd (me :: up) x Z hm s.heap)
    (k : ∀ g, HeldZ gd (me :: up) x Z L g → s.heap.UpToSlots g → Q () { s with heap := g }) : wpAny M A (noteFrame (.ref x) me) Q E s := by
  obtain ⟨a1, a2, a3, ox, fs, T, oT, ts, gx, zx, dx, i1, nT, neT, gT, dT, i3⟩ := held
  have away : ∀ b, b ≠ T → (s.heap.update T (Obj.mapFields (·.setIfInBounds 3 Value.none))).get? b = s.heap.get? b := fun b nb => Heap.get?_update_other _ _ (Ne.symm nb)
  have plain : ∀ b o, s.heap.get? b = some o → (∀ ws, o.data ≠ .fields ws) → b ≠ T := by
    intro b o gb nr z
    subst z
    rw [gT] at gb
    cases gb
    exact nr ts dT
  have gx' := (away x (Ne.symm neT)).trans gx
  unfold noteFrame
  simp only [here]
  refine wpAny_bind (wpAny_field gx dx i1 ?_)
  rw [if_pos (by simp : (Value.ref T != Value.none) = true)]
  refine wpAny_bind (wpAny_field gT dT i3 ?_)
  rw [if_neg (raw_ne ne)]
  refine wpAny_bind (wpAny_setField gT dT (Array.getElem?_eq_some_iff.mp i3).1 ?_)
  have a1' : gd.StaysIn (s.heap.update T (Obj.mapFields (·.setIfInBounds 3 Value.none))) := by
    intro b o gb
    have nb : b ≠ T := fun z => by
      rw [z, nT] at gb
      cases gb
    exact (away b nb).trans (a1 b o gb)
  have a3' : (s.heap.update T (Obj.mapFields (·.setIfInBounds 3 Value.none))).FunFrames gd (me :: up) := a3.of_keeps fun b o gb nr => ⟨o, (away b (plain b o gb nr)).trans gb, rfl⟩
  refine wpAny_entryZ bear stk a3' here gx' a1' a2 dx (Array.getElem?_eq_some_iff.mp i1).1 zx fun g ⟨y1, y2, y3, y4⟩ => ?_
  exact k g ⟨y1, a2, y2, y3⟩ fun b o gb nr => y4 b o ((away b (plain b o gb nr)).trans gb) nr
/-- another object, one of data, has changed: what is held is held -/
theorem held_but {C : Addr} {g h : Heap} {gd2 : Heap} {m m2 : Str → Option Value} (held : HeldZ gd l x Z L g) (hn : g.Ns C m) (hn2 : h.Ns C m2) (sb : Heap.SameBut C g h) (in1 : ∀ b o, gd2.get? b = some o → b ≠ C ∧ gd.get? b = some o) : HeldZ gd2 l x Z L h := by
  obtain ⟨a1, a2, a3, ox, fs, T, oT, ts, gx, zx, dx, i1, nT, neT, gT, dT, i3⟩ := held
  have notC : ∀ {b o ws}, g.get? b = some o → o.data = .fields ws → b ≠ C := by
    intro b o ws gb db z
    obtain ⟨oC, es, ep, gC, dC, _⟩ := hn
    rw [z, gC] at gb
    cases gb
    rw [db] at dC
    cases dC
  have none2 : ∀ b, gd.get? b = none → gd2.get? b = none := by
    intro b z
    cases q : gd2.get? b with
    | none => rfl
    | some o =>
      have q2 := (in1 b o q).2
      rw [z] at q2
      cases q2
  refine ⟨fun b o gb => (sb.2 b (in1 b o gb).1).trans (a1 b o (in1 b o gb).2), none2 x a2, funFrames_none (Heap.FunFrames.sameBut sb hn2 a3) fun F hF => none2 F (a3.mem hF).1, ox, fs, T, oT, ts, (sb.2 x (notC gx dx)).trans gx, zx, dx, i1, none2 T nT, neT, (sb.2 T (notC gT dT)).trans gT, dT, i3⟩
end
section
variable {X : Cx} {pins : List (Addr × Obj)} {σ : L2.St} {H3 : Hp} {s3 : Shared} {scope : Scope} {ce : PySem.Env} {fp : List Addr} {E : XK}
/-- where an exception of the element goes -/
abbrev xeB (X : Cx) (ce : PySem.Env) : Value → Shared → Prop := notedBy (model X.prog X.w) X.A ce (CompFails (model X.prog X.w) X.A X.xe ce)
theorem blk_air (hs : X.stack = X.env :: X.outer) (hf : X.env.frame = some X.env.locals) (I3 : Inv X pins σ H3 s3) (f3 : ∀ b ∈ fp, FpOk X pins H3 b) (cL : ce.locals = s3.heap.objs.size) (cF : ce.frame = X.env.frame)
    (tk : Takes X (fun cls d _ H => E cls d H)) : Takes ((X.blk s3 H3 scope ce fp).wish (xeB X ce)) (fun cls d _ H => E cls d H) := by
  rintro u s' ⟨a, B, sI, pins', σ', H, cls, d, rfl, J, nb, rise, air, na, eos, ag, w⟩
  have stk : X.A.frames = some (X.env :: X.outer) := by rw [I3.ok.frames, hs]
  have apart : ce.locals ≠ X.env.locals := by rw [cL]; exact Nat.ne_of_gt I3.lt
  have bp : ∀ b o, s3.heap.get? b = some o → b ≠ ce.locals := fun b o gb z => by
    have := Heap.lt_size gb
    rw [z, cL] at this
    exact absurd this (Nat.lt_irrefl _)
  have air : Sky B (X.env :: X.outer) a (Zc cls d) ce.locals s'.heap := by rw [← hs]; exact air
  show wpAny _ X.A (noteFrame (.ref a) ce) _ _ s'
  rw [noteFrame_env _ cF]
  have onward : ∀ h1, HeldZ B (X.env :: X.outer) a (Zc cls d) X.env.locals h1 → s'.heap.UpToSlots h1 → CompFails (model X.prog X.w) X.A X.xe ce (.ref a) { s' with heap := h1 } := by
    intro h1 hh1 r1
    obtain ⟨m, hn, _⟩ := J.loc
    have hn : sI.heap.Ns ce.locals m := hn
    have hn1 : h1.Ns ce.locals m := (rise.trans r1).ns hn
    refine ⟨m, hn1, fun h2 m2 hn2 sb => ?_⟩
    obtain ⟨G, g1, g2⟩ := restrict sI.heap fun b => decide (b ≠ ce.locals)
    obtain ⟨B2, b1, b2⟩ := restrict B fun b => decide (b ≠ ce.locals)
    have ofG : ∀ b o, G.get? b = some o → b ≠ ce.locals ∧ sI.heap.get? b = some o := by
      intro b o gb
      by_cases z : b = ce.locals
      · rw [g2 b (by simp [z])] at gb
        cases gb
      · rw [g1 b (by simp [z])] at gb
        exact ⟨z, gb⟩
    have ofB : ∀ b o, B2.get? b = some o → b ≠ ce.locals ∧ B.get? b = some o := by
      intro b o gb
      by_cases z : b = ce.locals
      · rw [b2 b (by simp [z])] at gb
        cases gb
      · rw [b1 b (by simp [z])] at gb
        exact ⟨z, gb⟩
    have inG : ∀ b o, b ≠ ce.locals → sI.heap.get? b = some o → G.get? b = some o := fun b o z gb => (g1 b (by simp [z])).trans gb
    have hh2 : HeldZ B2 (X.env :: X.outer) a (Zc cls d) X.env.locals h2 := held_but hh1 hn1 hn2 sb ofB
    have hh2' := hh2
    obtain ⟨_, _, _, ox, fs, T, oT, ts, gx, zx, dx, i1, _⟩ := hh2'
    unfold PySem.passOn
    refine wpAny_bind (wpAny_field gx dx i1 ?_)
    rw [if_neg (by simp : ¬ ((Value.ref T == Value.none) = true)), cF, hf]
    have fin : wpAny (model X.prog X.w) X.A (setFlight (.ref a) (some X.env.locals)) (fun _ s4 => wpAny (model X.prog X.w) X.A (throw (.ref a) : Sem Value) (fun _ _ => False) X.xe s4) X.xe { s' with heap := h2 } := by
      refine setFlight_onZ hh2 fun h4 hh4 r4 => wpAny_throw (tk _ _ ?_)
      have un : Un (frs X.stack) fp H3 H s3.heap sI.heap := J.base
      refine ⟨a, B2, { sI with heap := G }, pins, σ, H, cls, d, rfl, ?_, fun b o gb nf => ?_, fun b o gb nr => ?_, .inr (.inr (by rw [hs]; exact hh4)), na, eos, ag, w⟩
      · refine I3.call' (ch := fp) (s' := { sI with heap := G }) J.os ⟨fun b o e n f x => inG b o (bp b o e) (un.keep b o e n f x), fun b o e n f x => ?_, un.free, fun b o e x => ?_, un.tups, un.frzs, un.tbls⟩ (fun b o q => ?_) J.bare fun b hb => ⟨(f3 b hb).2.2.2.1, (f3 b hb).2.1, (f3 b hb).2.2.2.2.1, (f3 b hb).2.2.2.2.2⟩
        · obtain ⟨sl, q⟩ := un.slot b o e n f x
          exact ⟨sl, inG b _ (bp b o e) q⟩
        · obtain ⟨o', q⟩ := un.there b o e x
          exact ⟨o', inG b _ (bp b o e) q⟩
        · refine (J.hok b o q).stay (fun c v hc gc => inG c v (fun z => ?_) gc) (fun _ r => r) fun _ _ r => r
          have fr : H ce.locals = none := J.free
          rcases hc with hc | hc
          · rw [← hc, z, fr] at q
            cases q
          · rw [z, fr] at hc
            cases hc
      · have z := ofG b o gb
        exact (b1 b (by simp [z.1])).trans (nb b o z.2 nf)
      · have z := ofG b o gb
        obtain ⟨sl, q⟩ := (rise.trans r1) b o z.2 nr
        exact r4.trans (Heap.UpToSlots.refl _) b _ ((sb.2 b z.1).trans q) nr |>.imp fun _ q => q
    first
      | exact wpAny_bind (wpAny_pure (wpAny_bind fin))
      | exact wpAny_bind fin
  rcases air with ⟨c1, c2, c3, ox, fs, gx, zx, dx, i1⟩ | fl | hh
  · exact look_newZ Zc.steady stk c3 hf gx c1 c2 dx i1 zx onward
  · exact looks_onZ Zc.steady stk hf fl onward
  · exact note_other Zc.steady stk hf apart hh onward
end
section
variable {X : Cx} {elt tg iter : Expr} {scope : Scope} {own : List (Str × Nat)} {pos : Pos} {wi : TI} {g : TG} {te : TE} {E : XK}
/-- [elt for tg in iter], where a turn raises: none of the turns is the last -/
def tLcX (wi : TI) (g : TG) (te : TE) (vs : List Nat) : TE := fun σ H Q => wi σ H fun J H1 => ∀ D, H1 D = none → ∃ W : Nat → Nat → Hp → Prop, (∃ m, W 0 m (upd H1 D (.lst []))) ∧ ∀ i m H, W i m H →
  J.go i H ∧ ∃ Nx : Hp → Prop, (∀ H', Nx H' → ∃ m', m' < m ∧ W (i + 1) m' H') ∧ ∀ x H', J.yld i H x H' → g x (wipe σ vs) H' fun σ2 H2 => wipe σ2 vs = wipe σ vs ∧
    te σ2 H2 fun y H4 => ∃ acc, H4 D = some (.lst acc) ∧ acc.length < sizeLine ∧ Nx (upd H4 D (.lst (acc ++ [y])))
abbrev bx (X : Cx) (s : Shared) (H : Hp) (scope : Scope) (C : Addr) (cl : List (Str × Addr)) (fp : List Addr) (xe : Value → Shared → Prop) : Cx := (X.blk s H scope (compEnvC scope cl C X.env) fp).wish xe
theorem pe_lcX (hs : X.stack = X.env :: X.outer) (hf : X.env.frame = some X.env.locals) (tk : Takes X (fun cls d _ H => E cls d H)) (hc : X.calm = true) (hN : X.N.Nodup) (hi : PI X tg iter wi) (ok : BlkOk X.N X.env.scope scope own)
    (hg : ∀ (s : Shared) (H : Hp) (C : Addr) (cl : List (Str × Addr)) (fp : List Addr), PG (X.blk s H scope (compEnvC scope cl C X.env) fp) tg g)
    (he : ∀ (s : Shared) (H : Hp) (C : Addr) (cl : List (Str × Addr)) (fp : List Addr) (xe : Value → Shared → Prop), Takes (bx X s H scope C cl fp xe) (fun cls d _ H => E cls d H) → PE (bx X s H scope C cl fp xe) elt te)
    (hfs : ∀ x, foldedSetIterable iter X.env x = pure x) : PE X (.ListComp elt [⟨tg, iter, [], 0⟩] scope pos) (tLcX wi g te (own.map (·.2))) := by
  refine ⟨fun pins s σ H Q I h => ?_⟩
  rw [eval_ListComp]
  have cap : ∀ y ∈ scope.names, y.2 = .free → ∃ c, X.env.cells.lookup y.1 = some c := by
    intro y hy e
    exact (ok.free y hy e).elim (fun k => I.ok.has _ (.inl k)) fun k => I.ok.has _ (.inr k)
  refine comprehension_at (use := none) rfl hfs (closure_ok cap) ok.kind (fun y hy e => (ok.uniq y hy).trans (by rw [e])) (thn (hi.run pins s σ H _ I h) fun xv s1 hx => thn hx fun itv s2 h2 => ?_)
  obtain ⟨it, fp, tn, J, H2, rfl, I2, T, st2, f2, q⟩ := h2
  refine wpAny_newObj_type (newEnv_comp ?_) (Nat.zero_le sizeLine)
  obtain ⟨W, ⟨m0, w0⟩, turn⟩ := q s2.heap.objs.size (I2.hok.fresh (Nat.le_refl _))
  generalize hD : s2.heap.objs.size = D at turn w0 ⊢
  generalize hs3 : ({ s2 with heap := s2.heap.push { cls := .type "list", data := .seq ([] : List Value).toArray } } : Shared) = s3
  have e3 : s3.heap = s2.heap.push { cls := .type "list", data := .seq ([] : List Value).toArray } := by rw [← hs3]
  have kept3 : ∀ b o, s2.heap.get? b = some o → s3.heap.get? b = some o := fun b o gb => by rw [e3]; exact Heap.get?_push_of_some _ gb
  have I3 : Inv X pins σ (upd H2 D (.lst [])) s3 := by
    subst hs3
    refine I2.laid (t' := s2.toks) (fun b o gb => Heap.get?_push_of_some _ gb) (Nat.le_of_eq hD) ⟨Nat.zero_le _, [], 0, .nil, ?_⟩
    subst hD
    exact Heap.get?_push_size _ rfl
  have f3 : ∀ b ∈ fp, FpOk X pins (upd H2 D (.lst [])) b ∧ b < s3.heap.objs.size := by
    intro b hb
    obtain ⟨o, gb, _⟩ := T.obj _ _ st2 b hb
    refine ⟨⟨?_, (f2 b hb).2⟩, Heap.lt_size (kept3 b o gb)⟩
    rw [upd_ne (Nat.ne_of_lt (hD ▸ Heap.lt_size gb))]
    exact (f2 b hb).1
  have st3 : tn 0 s3.heap := T.keep _ _ _ st2 fun b _ o gb => kept3 b o gb
  have I4 := block_start I3 ok hN f3
  generalize hcl : cellsFrom (s3.heap.objs.size + 1) scope.names (cloFrom X.env.cells scope.names []) = cl at I4 ⊢
  have pg := hg s3 (upd H2 D (.lst [])) s3.heap.objs.size cl fp
  have pe := he s3 (upd H2 D (.lst [])) s3.heap.objs.size cl fp (xeB X (compEnvC scope cl s3.heap.objs.size X.env)) (blk_air hs hf I3 (fun b hb => (f3 b hb).1) rfl rfl tk)
  have clean : ∀ b ∈ fp, (upd H2 D (.lst [])) b = none := fun b hb => (f3 b hb).1.1
  generalize hH3 : upd H2 D (.lst []) = H3 at I3 I4 pg pe w0 clean f3
  have pe : PE ((X.blk s3 H3 scope (compEnvC scope cl s3.heap.objs.size X.env) fp).wish (xeB X (compEnvC scope cl s3.heap.objs.size X.env))) elt te := pe
  generalize hce : compEnvC scope cl s3.heap.objs.size X.env = ce at I4 pg pe
  show codeAny _ _ (.compStart (.ListComp elt [⟨tg, iter, [], 0⟩] scope pos) 0 (.ref it) (.ref D) (compEnvC scope cl s3.heap.objs.size X.env)) (compEnds (model X.prog X.w) X.A X.xe none _ (.ref D) (compEnvC scope cl s3.heap.objs.size X.env)) { s3 with heap := pushCells (s3.heap.push { cls := .type "dict", data := .dict #[] }) scope.names }
  rw [hce]
  generalize hs4 : ({ s3 with heap := pushCells (s3.heap.push { cls := .type "dict", data := .dict #[] }) scope.names } : Shared) = s4 at I4 ⊢
  have st4 : tn 0 s4.heap := T.keep _ _ _ st3 fun b _ o gb => by rw [← hs4]; exact pushCells_keeps _ _ _ _ (Heap.get?_push_of_some _ gb)
  have own4 : ∀ {pl : List (Addr × Obj)} {τ : L2.St} {K : Hp} {t : Shared}, pl = [] → Inv (X.blk s3 H3 scope ce fp) pl τ K t → (∀ b ∈ fp, K b = none) → ∀ b ∈ fp, FpOk (X.blk s3 H3 scope ce fp) pl K b := by
    intro pl τ K t hpl IK kn b hb
    subst hpl
    exact ⟨kn b hb, (IK.ok.exf b hb).1, IK.ok.exfs b hb, .inl hb, (IK.ok.exf b hb).2 , fun p hp => by cases (show p ∈ ([] : List (Addr × Obj)) ++ [] from hp)⟩
  have body : codeAny (model X.prog X.w) X.A (.compLoop (.ListComp elt [⟨tg, iter, [], 0⟩] scope pos) 0 (.ref it) (.ref D) ce) (compEnds (model X.prog X.w) X.A X.xe none (EP X pins σ Q) (.ref D) ce) s4 := by
    refine compLoop_any (fun n t => ∃ i K, Inv (X.blk s3 H3 scope ce fp) [] (wipe σ (own.map (·.2))) K t ∧ tn i t.heap ∧ (∀ b ∈ fp, K b = none) ∧ W i n K) ?_ m0 ⟨0, H3, I4, st4, clean, w0⟩
    rintro n t5 ⟨i, K5, I5, st5, n5, w5⟩
    obtain ⟨go, Nx, hNx, step⟩ := turn i n K5 w5
    refine thn (T.item (X.blk s3 H3 scope ce fp) rfl rfl rfl hc i [] t5 _ K5 _ I5 (own4 rfl I5 n5) st5 go) fun r t6 ⟨u, hr, h6⟩ => ?_
    subst hr
    refine thn h6 fun _ t7 ⟨x, K7, I7, r7, y7, st7, n7⟩ => ?_
    have P7 := I7.pinned (own4 rfl I7 n7) (T.obj _ _ st7)
    refine thnF (pg.run _ t7 _ K7 x u _ P7 r7 (step x K7 y7)) fun _ t8 ⟨σ8, K8, I8, hw8, q8⟩ => ?_
    refine wpAny_tests_nil ?_
    simp only [if_true]
    refine wpAny_mono (pe.run _ t8 σ8 K8 _ (I8.wish _) q8) (fun z t9 ⟨yv, K9, I9, r9, acc, hD9, hz9, nx⟩ => ?_) fun _ _ z => z
    refine app_ok (X := X.blk s3 H3 scope ce fp) I9.unwish hD9 hz9 r9 fun ta Ia => ?_
    obtain ⟨m', lt, w'⟩ := hNx _ nx
    have still : ∀ b ∈ fp, ∀ o, t7.heap.get? b = some o → ta.heap.get? b = some o ∧ (upd K9 D (.lst (acc ++ [yv]))) b = none := by
      intro b hb o gb
      have z := Ia.pin (b, o) (List.mem_append_right _ (List.mem_append_right _ (mem_pinsAt hb gb)))
      exact ⟨z.1, z.2.1⟩
    refine ⟨m', lt, i + 1, _, (Ia.unpinned (pins := [])).weak (by rw [← hw8, wipe_length]) (fun j v e => ?_), T.keep _ _ _ st7 fun b hb o gb => (still b hb o gb).1, fun b hb => ?_, w'⟩
    · rw [← hw8] at e
      exact (wipe_some e).1
    · obtain ⟨o, gb, _⟩ := T.obj _ _ st7 b hb
      exact (still b hb o gb).2
  exact codeAny_compStart_list body (T.self X.A 0 _ _ _ st4 body)
end
end LX
namespace DL
open PySem PySem.Spec PyProof.Rows L2
/-- the first turn that raises -/
def lcX {τ : Type} (xf : D → Option τ) (f : D → Option (Option D)) : List D → Option τ
  | [] => none
  | d :: ds => orX (xf d) ((f d).bind fun _ => lcX xf f ds)
def lcXG {τ : Type} (xf : D → Option τ) (f : D → Option (Option D)) (ds : List D) : Option τ := if ds.length ≤ sizeLine then lcX xf f ds else none
abbrev BlkE (X : Cx) (E : XK) (scope : Scope) (P : Cx → Prop) : Prop := ∀ (s : Shared) (H : Hp) (C : Addr) (cl : List (Str × Addr)) (fp : List Addr) (xe : Value → Shared → Prop), Lets (LX.bx X s H scope C cl fp xe) E → P (LX.bx X s H scope C cl fp xe)
section
variable {X : Cx} {E : XK} {ρ ρ1 : Env} {tg elt iter : Expr} {scope : Scope} {pos : Pos} {gv : List Nat} {own : List (Str × Nat)} {ds : List D} {d w : D} {l : List (Nat × D)} {x : XV} {sl : List (Option VD)} {vs : List Nat}
/-- an element that may raise, or not -/
def bEE (X : Cx) (E : XK) (scope : Scope) (elt : Expr) : TE := fun σ H Q => (∃ ρ x ρ', Blk X scope (fun Y => ED Y ρ elt x ρ') ∧ tE X.K ρ x ρ' σ H Q) ∨ ∃ ρ x ρ', BlkE X E scope (fun Y => EX Y E ρ elt x ρ') ∧ tEX X.K ρ x ρ' E σ H Q
theorem bEE_ok : BlkE X E scope (fun Y => PE Y elt (bEE X E scope elt)) := fun s H C cl fp xe hl => ⟨fun pins s' σ H' Q I h => by
  rcases h with ⟨ρ, x, ρ', h1, hq⟩ | ⟨ρ, x, ρ', h1, hq⟩
  · exact (PE.nox (X := LX.bx X s H scope C cl fp xe) (h1 s H C cl fp)).run pins s' σ H' Q I hq
  · exact (h1 s H C cl fp xe hl).run pins s' σ H' Q I hq⟩
/-- a turn that raises x -/
def LcE (X : Cx) (E : XK) (scope : Scope) (gv vs : List Nat) (ρ1 : Env) (tg elt : Expr) (d : D) (x : XV) : Prop :=
  ∃ sl2, Blk X scope (fun Y => GD Y gv ⟨ρ1.m, wpE ρ1.sl vs, ρ1.ow⟩ tg (.d d) ⟨ρ1.m, sl2, ρ1.ow⟩) ∧ BlkE X E scope (fun Y => EX Y E ⟨ρ1.m, sl2, ρ1.ow⟩ elt x ⟨ρ1.m, sl2, ρ1.ow⟩)
theorem lcE0 (hg : Blk X scope (fun Y => TG Y gv tg d l)) (hl : (⟨ρ1.m, wpE ρ1.sl vs, ρ1.ow⟩ : Env).puts l = ⟨ρ1.m, sl, ρ1.ow⟩) (he : BlkE X E scope (fun Y => EX Y E ⟨ρ1.m, sl, ρ1.ow⟩ elt x ⟨ρ1.m, sl, ρ1.ow⟩)) : LcE X E scope gv vs ρ1 tg elt d x :=
  ⟨sl, fun a b c d e => hl ▸ hg a b c d e _, he⟩
/-- [elt for tg in iter], a turn of which raises -/
theorem ex_lcE {τ : Type} {xf : D → Option τ} {f : D → Option (Option D)} {t : τ} (xv : τ → XV) (hst : X.stack = X.env :: X.outer) (hfr : X.env.frame = some X.env.locals) (tk : Lets X E) (hi : ItD X ρ tg iter ds ρ1) (hf : lcXG xf f ds = some t)
    (hx : ∀ d t, xf d = some t → LcE X E scope gv (own.map (·.2)) ρ1 tg elt d (xv t)) (hs : ∀ d o, f d = some o → o.isSome = true ∧ LcP X scope gv (own.map (·.2)) ρ1 tg elt [] d o)
    (hgv : ∀ j ∈ gv, j ∈ own.map (·.2)) (ok : BlkOk X.N X.env.scope scope own) (hN : X.N.Nodup) (hc : X.calm = true) (hfs : ∀ x, foldedSetIterable iter X.env x = pure x) :
    EX X E ρ (.ListComp elt [⟨tg, iter, [], 0⟩] scope pos) (xv t) ρ1 := by
  obtain ⟨hz, hf⟩ : ds.length ≤ sizeLine ∧ lcX xf f ds = some t := by
    unfold lcXG at hf
    split at hf
    · exact ⟨by assumption, hf⟩
    · cases hf
  refine ex_of (LX.pe_lcX (g := bG X scope gv tg) hst hfr tk hc hN hi ok bG_ok (bEE_ok (elt := elt)) hfs) fun σ H Q ⟨fr, S, ad, R, kk⟩ => ⟨fr, S, ad, R, fun S1 H1 ad1 J st1 R1 w L hL => ?_⟩
  have hM : L ∉ fr.M := R1.notM' hL
  have h0' : fr.H L = none := R1.fr0 hL
  have hSL : fr.S L = none := R1.grow.s.back (R1.grow.sh.back hL)
  let W : Nat → Nat → Hp → Prop := fun i m H' => m = ds.length - i ∧ lcX xf f (ds.drop i) = some t ∧ ∃ accv acc S' ad', acc.length ≤ i ∧ Rel X.K (frD fr L (.lst accv)) { ρ1 with sl := wpE ρ1.sl (own.map (·.2)) } (wipe σ (own.map (·.2))) S' H' ad' ∧ RpAll X.K S' accv acc ∧ Step S1 ad1 S' ad'
  refine ⟨W, ⟨_, rfl, hf, [], [], S1, ad1, Nat.le_refl _, (R1.ext hL).wiped _, .nil, .refl _ _⟩, ?_⟩
  rintro i m H' ⟨rfl, hX, accv, acc, S', ad', hlen, R', ra, st'⟩
  have hlt : i < ds.length := by
    rcases Nat.lt_or_ge i ds.length with z | z
    · exact z
    · rw [List.drop_eq_nil_of_le z] at hX
      cases hX
  have hEx : Ex S1 H' := st'.s.trans R'.grow.sh
  refine ⟨w.goes i H' hlt hEx, fun H2 => W (i + 1) (ds.length - (i + 1)) H2, fun H2 p => ⟨_, by omega, p⟩, fun xw H2 hy => ?_⟩
  obtain ⟨S2, d, hd1, st2, R2, rp⟩ := R'.item st'.s (w.yields i H' xw H2 hlt hEx hy)
  have hdr : ds.drop i = d :: ds.drop (i + 1) := by
    obtain ⟨h1, h2⟩ := List.getElem?_eq_some_iff.mp hd1
    rw [List.drop_eq_getElem_cons h1, h2]
  rw [hdr] at hX
  rcases orX_or hX with h1 | h1
  · obtain ⟨sl2, hG, hE⟩ := hx d t h1
    refine ⟨_, _, _, hG, _, S2, ad', R2, .d rp, fun σ3 S3 H3 ad3 st3 R3 hl3 hj3 => ⟨wipe_eq (hl3.trans (wipe_length _ _)) hj3 hgv, .inr ⟨_, _, _, hE, _, S3, ad3, R3, fun S4 H4 ad4 cls dd st4 R4 ix => ?_⟩⟩⟩
    obtain ⟨R5, st5⟩ := R4.extTake hM hSL h0'
    have st6 := ((((st'.trans st2).trans st3).trans st4).trans st5)
    refine kk _ H4 ad4 cls dd (st1.trans st6) ⟨R5.grow, fun j y e => ?_, R5.own, R5.mm, R5.nd, R1.len, R5.al, R5.ml, R5.lv⟩ (ix.mono st5.s)
    obtain ⟨v, e1, e2⟩ := R1.slots j y e
    exact ⟨v, e1, e2.mono st6⟩
  · obtain ⟨o, h2, h3⟩ := bnd h1
    obtain ⟨ho, ⟨m2, sl2, ow2⟩, hG, hm, hw, _, hE⟩ := hs d o h2
    cases hm
    cases hw
    cases o with
    | none => cases ho
    | some e =>
      refine ⟨_, _, _, hG, _, S2, ad', R2, .d rp, fun σ3 S3 H3 ad3 st3 R3 hl3 hj3 => ⟨wipe_eq (hl3.trans (wipe_length _ _)) hj3 hgv, .inl ⟨_, _, _, hE e rfl, _, S3, ad3, R3, fun S5 H5 ad5 v5 st5 R5 rv5 => ?_⟩⟩⟩
      obtain ⟨hp5, _⟩ := R5.extAt hM hSL
      have st6 := (((st'.trans st2).trans st3).trans st5)
      have back : Rel X.K (frD fr L (.lst accv)) { ρ1 with sl := wpE ρ1.sl (own.map (·.2)) } (wipe σ (own.map (·.2))) S5 H5 ad5 := by
        refine ⟨R5.grow, fun j y e => ?_, R5.own, R5.mm, R5.nd, R2.len, R5.al, R5.ml, R5.lv⟩
        obtain ⟨v, e1, e2⟩ := R2.slots j y e
        exact ⟨v, e1, e2.mono (st3.trans st5)⟩
      refine ⟨accv, hp5, ?_, rfl, h3, accv ++ [v5], acc ++ [e], S5, ad5, ?_, back.extSet hM hSL, (ra.mono ((st2.trans st3).trans st5).s).append (.cons rv5.dd .nil), st6⟩
      · rw [ra.length]
        omega
      · rw [List.length_append]
        simp
        exact hlen
end
end DL
namespace DL
open PySem PySem.Spec PyProof.Rows L2
/-- a list of ours, looked at by what gives a text -/
theorem ed_lookS {X : Cx} {ρ ρ1 : Env} {e : Expr} {n : Nat} {w : D} {z : Str} {ds0 : List D} (hn : ρ.ow[n]? = some (some (.lst ds0))) (he : ED X (ρ.vw n (.lst ds0)) e (.d w) ρ1) (hw : decStr w = some z) : ED X ρ e (.d (.str z)) ρ := by
  have e1 : w = .str z := by cases w <;> simp [decStr] at hw; subst hw; rfl
  subst e1
  exact ed_lookL hn he rfl (fun _ h => nomatch h)
end DL
namespace DL
open PySem PySem.Spec PyProof.Rows L2
/-- membership in a tuple, as a value -/
theorem ed_inTP {X : Cx} {ρ ρ1 ρ2 : Env} {a b : Expr} {pos : Pos} {p : Bool} {d u : D} (hu : X.A.units + 65 < cLine) (ha : ED X ρ a (.d d) ρ1) (hb : ED X ρ1 b (.d u) ρ2) (h : dInT d u = some p) (hm : behindInMarks .In b = false := by rfl) : ED X ρ (.Compare a [.In] [b] pos) (.d (.bl p)) ρ2 := by
  obtain ⟨ds, e1, h1, h2, h3, h4, h5⟩ := dInT_ok h
  subst e1
  refine ed_of (pe_cmpR (op_inDT hu) ha hb hm) fun σ H Q hk => two_ σ H Q _ hk fun fr S ad S1 H1 ad1 v1 v2 A st r1 r2 kk => ?_
  refine ⟨d.py, pyAll ds, Rp.dp A.grow.sh d h1 r1.dd, Rp.dp A.grow.sh (.tup ds) h3 r2.dd, py_shaped h1 h2, py_shaped h3 h4, ?_⟩
  rw [h5]
  exact kk S1 H1 ad1 _ (.refl _ _) A (.d (.bl _))
end DL

namespace Pr
open PySem PySem.Spec PyProof.Rows L2 DL
/-- what the top has made, as the walk needs it -/
structure Tx (K : PySem.W.Frag) (mg : Str → Option Value) : Prop where
  f_len : mg "len" = none
  f_range : mg "range" = none
  f_max : mg "max" = none
  f_int : mg "int" = none
  f_isinstance : mg "isinstance" = none
  f_enumerate : mg "enumerate" = none
  f_tuple : mg "tuple" = none
  f_list : mg "list" = none
  f_str : mg "str" = none
  f_bool : mg "bool" = none
  f_all : mg "all" = none
  f_TypeError : mg "TypeError" = none
  f_ValueError : mg "ValueError" = none
  v_LEFT : ∃ t, mg "LEFT" = some (.str "left" t)
  v_RIGHT : ∃ t, mg "RIGHT" = some (.str "right" t)
  g_SIDES : mg "SIDES" = some (.ref (He.ga K "SIDES"))
  t_SIDES : ∀ H : Hp, SqT K H (He.ga K "SIDES") [.str "left", .str "right"]
  v_MAX_STONES_rows : ∃ t, mg "MAX_STONES_rows" = some (.int 40 t)
  v_MAX_PLACE : ∃ t, mg "MAX_PLACE" = some (.int 1000000000 t)
  v_MAX_HEIGHT : ∃ t, mg "MAX_HEIGHT" = some (.int 1000000000 t)
  v_WORD : ∃ t, mg "WORD" = some (.str "stone" t)
  v_DIGITS : ∃ t, mg "DIGITS" = some (.str "0123456789" t)
  v_MAX_DIGITS : ∃ t, mg "MAX_DIGITS" = some (.int 10 t)
  v_WORDS : ∃ t, mg "WORDS" = some (.int 3 t)
  d_InvalidRow_init : ∃ fd, FunD K "__init__" "InvalidRow.__init__" (defArgs s_InvalidRow_init) (defBody s_InvalidRow_init) (defScope s_InvalidRow_init) [] [] (He.ma K (He.ga K "InvalidRow") "__init__") fd
  d_NotationError_init : ∃ fd, FunD K "__init__" "NotationError.__init__" (defArgs s_NotationError_init) (defBody s_NotationError_init) (defScope s_NotationError_init) [] [] (He.ma K (He.ga K "NotationError") "__init__") fd
  d_is_integer : ∃ fd, FunD K "is_integer" "is_integer" (defArgs s_is_integer) (defBody s_is_integer) (defScope s_is_integer) [] [] (He.ga K "is_integer") fd
  g_is_integer : mg "is_integer" = some (.ref (He.ga K "is_integer"))
  d_is_stone : ∃ fd, FunD K "is_stone" "is_stone" (defArgs s_is_stone) (defBody s_is_stone) (defScope s_is_stone) [] [] (He.ga K "is_stone") fd
  g_is_stone : mg "is_stone" = some (.ref (He.ga K "is_stone"))
  d_Row_init : ∃ fd, FunD K "__init__" "Row.__init__" (defArgs s_Row_init) (defBody s_Row_init) (defScope s_Row_init) [] [] (He.ma K (He.ga K "Row") "__init__") fd
  m_Row_init : Meth K (He.ga K "Row") "__init__" (He.ma K (He.ga K "Row") "__init__")
  d_Row_stones : ∃ fd, FunD K "stones" "Row.stones" (defArgs s_Row_stones) (defBody s_Row_stones) (defScope s_Row_stones) [] [] (HK.pg K (He.ga K "Row") "stones") fd
  p_Row_stones : PropOf K (He.ga K "Row") "stones" (He.ma K (He.ga K "Row") "stones") (HK.pg K (He.ga K "Row") "stones")
  d_Row_len : ∃ fd, FunD K "__len__" "Row.__len__" (defArgs s_Row_len) (defBody s_Row_len) (defScope s_Row_len) [] [] (He.ma K (He.ga K "Row") "__len__") fd
  m_Row_len : Meth K (He.ga K "Row") "__len__" (He.ma K (He.ga K "Row") "__len__")
  d_Row_add : ∃ fd, FunD K "__add__" "Row.__add__" (defArgs s_Row_add) (defBody s_Row_add) (defScope s_Row_add) [] [] (He.ma K (He.ga K "Row") "__add__") fd
  m_Row_add : Meth K (He.ga K "Row") "__add__" (He.ma K (He.ga K "Row") "__add__")
  d_row_of : ∃ fd, FunD K "row_of" "row_of" (defArgs s_row_of) (defBody s_row_of) (defScope s_row_of) [] [] (He.ga K "row_of") fd
  g_row_of : mg "row_of" = some (.ref (He.ga K "row_of"))
  d_is_number : ∃ fd, FunD K "is_number" "is_number" (defArgs s_is_number) (defBody s_is_number) (defScope s_is_number) [] [] (He.ga K "is_number") fd
  g_is_number : mg "is_number" = some (.ref (He.ga K "is_number"))
  d_format_row : ∃ fd, FunD K "format_row" "format_row" (defArgs s_format_row) (defBody s_format_row) (defScope s_format_row) [] [] (He.ga K "format_row") fd
  g_format_row : mg "format_row" = some (.ref (He.ga K "format_row"))
  d_stone_of : ∃ fd, FunD K "stone_of" "stone_of" (defArgs s_stone_of) (defBody s_stone_of) (defScope s_stone_of) [] [] (He.ga K "stone_of") fd
  g_stone_of : mg "stone_of" = some (.ref (He.ga K "stone_of"))
  d_parse_row : ∃ fd, FunD K "parse_row" "parse_row" (defArgs s_parse_row) (defBody s_parse_row) (defScope s_parse_row) [] [] (He.ga K "parse_row") fd
  g_parse_row : mg "parse_row" = some (.ref (He.ga K "parse_row"))
  d_law_dice : ∃ fd, FunD K "_law_dice" "_law_dice" (defArgs s_law_dice) (defBody s_law_dice) (defScope s_law_dice) [] [] (He.ga K "_law_dice") fd
  g_law_dice : mg "_law_dice" = some (.ref (He.ga K "_law_dice"))
  d_law_next : ∃ fd, FunD K "_law_next" "_law_next" (defArgs s_law_next) (defBody s_law_next) (defScope s_law_next) [] [] (He.ga K "_law_next") fd
  g_law_next : mg "_law_next" = some (.ref (He.ga K "_law_next"))
  d_law_pick : ∃ fd, FunD K "_law_pick" "_law_pick" (defArgs s_law_pick) (defBody s_law_pick) (defScope s_law_pick) [] [] (He.ga K "_law_pick") fd
  g_law_pick : mg "_law_pick" = some (.ref (He.ga K "_law_pick"))
  d_law_told : ∃ fd, FunD K "_law_told" "_law_told" (defArgs s_law_told) (defBody s_law_told) (defScope s_law_told) [] [] (He.ga K "_law_told") fd
  g_law_told : mg "_law_told" = some (.ref (He.ga K "_law_told"))
  d_law_stones : ∃ fd, FunD K "_law_stones" "_law_stones" (defArgs s_law_stones) (defBody s_law_stones) (defScope s_law_stones) [] [] (He.ga K "_law_stones") fd
  g_law_stones : mg "_law_stones" = some (.ref (He.ga K "_law_stones"))
  d_law_made : ∃ fd, FunD K "_law_made" "_law_made" (defArgs s_law_made) (defBody s_law_made) (defScope s_law_made) [] [] (He.ga K "_law_made") fd
  g_law_made : mg "_law_made" = some (.ref (He.ga K "_law_made"))
  d_law_figures : ∃ fd, FunD K "_law_figures" "_law_figures" (defArgs s_law_figures) (defBody s_law_figures) (defScope s_law_figures) [] [] (He.ga K "_law_figures") fd
  g_law_figures : mg "_law_figures" = some (.ref (He.ga K "_law_figures"))
  d_law_parsed : ∃ fd, FunD K "_law_parsed" "_law_parsed" (defArgs s_law_parsed) (defBody s_law_parsed) (defScope s_law_parsed) [] [] (He.ga K "_law_parsed") fd
  g_law_parsed : mg "_law_parsed" = some (.ref (He.ga K "_law_parsed"))
  d_law : ∃ fd, FunD K "law" "law" (defArgs s_law) (defBody s_law) (defScope s_law) [] [] (He.ga K "law") fd
  g_law : mg "law" = some (.ref (He.ga K "law"))
  g_StoneError : mg "StoneError" = some (.ref (He.ga K "StoneError"))
  g_InvalidRow : mg "InvalidRow" = some (.ref (He.ga K "InvalidRow"))
  g_UnknownStone : mg "UnknownStone" = some (.ref (He.ga K "UnknownStone"))
  g_InvalidSide : mg "InvalidSide" = some (.ref (He.ga K "InvalidSide"))
  g_InvalidNumber : mg "InvalidNumber" = some (.ref (He.ga K "InvalidNumber"))
  g_NotStanding : mg "NotStanding" = some (.ref (He.ga K "NotStanding"))
  g_NotLying : mg "NotLying" = some (.ref (He.ga K "NotLying"))
  g_InvalidOperation : mg "InvalidOperation" = some (.ref (He.ga K "InvalidOperation"))
  g_Contradiction : mg "Contradiction" = some (.ref (He.ga K "Contradiction"))
  g_NotationError : mg "NotationError" = some (.ref (He.ga K "NotationError"))
  g_InvalidCount : mg "InvalidCount" = some (.ref (He.ga K "InvalidCount"))
  g_DecodeError : mg "DecodeError" = some (.ref (He.ga K "DecodeError"))
  g_Row : mg "Row" = some (.ref (He.ga K "Row"))
  c_Row : Cls K (He.ga K "Row")
  mk_Row : Mk K (He.ga K "Row") (He.ma K (He.ga K "Row") "__init__")
  sf_Row : PySem.W.selfFirst K (He.ga K "Row") = true
  ne_Row : neOk K (He.ga K "Row") = true
  is_Row : isOk K (He.ga K "Row") = true
  sh_Row : shOk K (He.ga K "Row") "rshift" = true
  na_Row_blocks : NoAttr K (He.ga K "Row") "blocks"
  ixs : ∀ a ∈ xcL, isXB K (He.ga K a) = true
  ems : ∀ a ∈ xcL, PySem.W.exmOne K (.ref (He.ga K a)) (.ref (He.ga K "StoneError")) = some true
  kis : ∀ p ∈ kiL, PySem.W.kitOne K (.ref (He.ga K p.1)) (.ref (He.ga K p.2.1)) = some p.2.2
  kvs : ∀ a ∈ xcL, PySem.W.kitOne K (.ref (He.ga K a)) (.type "ValueError") = some true
  nofs : ∀ a ∈ xcL, ∀ f ∈ xfL, PySem.W.findIn K (.ref (He.ga K a)) f = some none
  bcx : baseB K (He.ga K "StoneError") = true
  ox_InvalidRow : OexC K (He.ga K "InvalidRow")
  in_InvalidRow : PySem.W.findIn K (.ref (He.ga K "InvalidRow")) "__init__" = some (some (.ref (He.ma K (He.ga K "InvalidRow") "__init__")))
  it_InvalidRow : PySem.W.typeIn K (.ref (He.ma K (He.ga K "InvalidRow") "__init__")) = some (.type "function")
  ox_NotationError : OexC K (He.ga K "NotationError")
  in_NotationError : PySem.W.findIn K (.ref (He.ga K "NotationError")) "__init__" = some (some (.ref (He.ma K (He.ga K "NotationError") "__init__")))
  it_NotationError : PySem.W.typeIn K (.ref (He.ma K (He.ga K "NotationError") "__init__")) = some (.type "function")
  tbs : ∀ g ∈ ltL, tabB K (He.ga K g) = true
  tbn : (ltL.map fun g => tabA K (He.ga K g)).Nodup
theorem hTx {K : PySem.W.Frag} {h : Heap} {mg : Str → Option Value} (X : K.In h) (G : h.Ns mainGlobals mg) (c : HK.SaysM hfa hfn K) : Tx K mg where
  f_len := He.free_ok X G (c.fact 0 (f := (fun K => (He.Fa.free "len").ok K)) rfl)
  f_range := He.free_ok X G (c.fact 1 (f := (fun K => (He.Fa.free "range").ok K)) rfl)
  f_max := He.free_ok X G (c.fact 2 (f := (fun K => (He.Fa.free "max").ok K)) rfl)
  f_int := He.free_ok X G (c.fact 3 (f := (fun K => (He.Fa.free "int").ok K)) rfl)
  f_isinstance := He.free_ok X G (c.fact 4 (f := (fun K => (He.Fa.free "isinstance").ok K)) rfl)
  f_enumerate := He.free_ok X G (c.fact 5 (f := (fun K => (He.Fa.free "enumerate").ok K)) rfl)
  f_tuple := He.free_ok X G (c.fact 6 (f := (fun K => (He.Fa.free "tuple").ok K)) rfl)
  f_list := He.free_ok X G (c.fact 7 (f := (fun K => (He.Fa.free "list").ok K)) rfl)
  f_str := He.free_ok X G (c.fact 8 (f := (fun K => (He.Fa.free "str").ok K)) rfl)
  f_bool := He.free_ok X G (c.fact 9 (f := (fun K => (He.Fa.free "bool").ok K)) rfl)
  f_all := He.free_ok X G (c.fact 10 (f := (fun K => (He.Fa.free "all").ok K)) rfl)
  f_TypeError := He.free_ok X G (c.fact 11 (f := (fun K => (He.Fa.free "TypeError").ok K)) rfl)
  f_ValueError := He.free_ok X G (c.fact 12 (f := (fun K => (He.Fa.free "ValueError").ok K)) rfl)
  v_LEFT := He.str_ok X G (c.fact 13 (f := (fun K => (He.Fa.str "LEFT" "left").ok K)) rfl)
  v_RIGHT := He.str_ok X G (c.fact 14 (f := (fun K => (He.Fa.str "RIGHT" "right").ok K)) rfl)
  g_SIDES := He.glo_ok X G (c.fact 15 (f := (fun K => (He.Fa.glo "SIDES").ok K)) rfl)
  t_SIDES := fun H => He.tupB_ok (c.fact 16 (f := (fun K => He.tupB K "SIDES" [.str "left", .str "right"])) rfl) H
  v_MAX_STONES_rows := He.int_ok X G (c.fact 17 (f := (fun K => (He.Fa.int "MAX_STONES_rows" 40).ok K)) rfl)
  v_MAX_PLACE := He.int_ok X G (c.fact 18 (f := (fun K => (He.Fa.int "MAX_PLACE" 1000000000).ok K)) rfl)
  v_MAX_HEIGHT := He.int_ok X G (c.fact 19 (f := (fun K => (He.Fa.int "MAX_HEIGHT" 1000000000).ok K)) rfl)
  v_WORD := He.str_ok X G (c.fact 20 (f := (fun K => (He.Fa.str "WORD" "stone").ok K)) rfl)
  v_DIGITS := He.str_ok X G (c.fact 21 (f := (fun K => (He.Fa.str "DIGITS" "0123456789").ok K)) rfl)
  v_MAX_DIGITS := He.int_ok X G (c.fact 22 (f := (fun K => (He.Fa.int "MAX_DIGITS" 10).ok K)) rfl)
  v_WORDS := He.int_ok X G (c.fact 23 (f := (fun K => (He.Fa.int "WORDS" 3).ok K)) rfl)
  d_InvalidRow_init := c.def_ 0 (d := h_InvalidRow_init) rfl
  d_NotationError_init := c.def_ 1 (d := h_NotationError_init) rfl
  d_is_integer := c.def_ 2 (d := h_is_integer) rfl
  g_is_integer := He.glo_ok X G (c.fact 24 (f := (fun K => (He.Fa.glo "is_integer").ok K)) rfl)
  d_is_stone := c.def_ 3 (d := h_is_stone) rfl
  g_is_stone := He.glo_ok X G (c.fact 25 (f := (fun K => (He.Fa.glo "is_stone").ok K)) rfl)
  d_Row_init := c.def_ 4 (d := h_Row_init) rfl
  m_Row_init := He.meth_ok (c.fact 26 (f := (fun K => (He.Fa.meth "Row" "__init__").ok K)) rfl)
  d_Row_stones := c.def_ 5 (d := h_Row_stones) rfl
  p_Row_stones := HK.propB_ok (c.fact 27 (f := (fun K => HK.propB K (He.ga K "Row") "stones")) rfl)
  d_Row_len := c.def_ 6 (d := h_Row_len) rfl
  m_Row_len := He.meth_ok (c.fact 28 (f := (fun K => (He.Fa.meth "Row" "__len__").ok K)) rfl)
  d_Row_add := c.def_ 7 (d := h_Row_add) rfl
  m_Row_add := He.meth_ok (c.fact 29 (f := (fun K => (He.Fa.meth "Row" "__add__").ok K)) rfl)
  d_row_of := c.def_ 8 (d := h_row_of) rfl
  g_row_of := He.glo_ok X G (c.fact 30 (f := (fun K => (He.Fa.glo "row_of").ok K)) rfl)
  d_is_number := c.def_ 9 (d := h_is_number) rfl
  g_is_number := He.glo_ok X G (c.fact 31 (f := (fun K => (He.Fa.glo "is_number").ok K)) rfl)
  d_format_row := c.def_ 10 (d := h_format_row) rfl
  g_format_row := He.glo_ok X G (c.fact 32 (f := (fun K => (He.Fa.glo "format_row").ok K)) rfl)
  d_stone_of := c.def_ 11 (d := h_stone_of) rfl
  g_stone_of := He.glo_ok X G (c.fact 33 (f := (fun K => (He.Fa.glo "stone_of").ok K)) rfl)
  d_parse_row := c.def_ 12 (d := h_parse_row) rfl
  g_parse_row := He.glo_ok X G (c.fact 34 (f := (fun K => (He.Fa.glo "parse_row").ok K)) rfl)
  d_law_dice := c.def_ 13 (d := h_law_dice) rfl
  g_law_dice := He.glo_ok X G (c.fact 35 (f := (fun K => (He.Fa.glo "_law_dice").ok K)) rfl)
  d_law_next := c.def_ 14 (d := h_law_next) rfl
  g_law_next := He.glo_ok X G (c.fact 36 (f := (fun K => (He.Fa.glo "_law_next").ok K)) rfl)
  d_law_pick := c.def_ 15 (d := h_law_pick) rfl
  g_law_pick := He.glo_ok X G (c.fact 37 (f := (fun K => (He.Fa.glo "_law_pick").ok K)) rfl)
  d_law_told := c.def_ 16 (d := h_law_told) rfl
  g_law_told := He.glo_ok X G (c.fact 38 (f := (fun K => (He.Fa.glo "_law_told").ok K)) rfl)
  d_law_stones := c.def_ 17 (d := h_law_stones) rfl
  g_law_stones := He.glo_ok X G (c.fact 39 (f := (fun K => (He.Fa.glo "_law_stones").ok K)) rfl)
  d_law_made := c.def_ 18 (d := h_law_made) rfl
  g_law_made := He.glo_ok X G (c.fact 40 (f := (fun K => (He.Fa.glo "_law_made").ok K)) rfl)
  d_law_figures := c.def_ 19 (d := h_law_figures) rfl
  g_law_figures := He.glo_ok X G (c.fact 41 (f := (fun K => (He.Fa.glo "_law_figures").ok K)) rfl)
  d_law_parsed := c.def_ 20 (d := h_law_parsed) rfl
  g_law_parsed := He.glo_ok X G (c.fact 42 (f := (fun K => (He.Fa.glo "_law_parsed").ok K)) rfl)
  d_law := c.def_ 21 (d := h_law) rfl
  g_law := He.glo_ok X G (c.fact 43 (f := (fun K => (He.Fa.glo "law").ok K)) rfl)
  g_StoneError := He.glo_ok X G (c.fact 44 (f := (fun K => (He.Fa.glo "StoneError").ok K)) rfl)
  g_InvalidRow := He.glo_ok X G (c.fact 45 (f := (fun K => (He.Fa.glo "InvalidRow").ok K)) rfl)
  g_UnknownStone := He.glo_ok X G (c.fact 46 (f := (fun K => (He.Fa.glo "UnknownStone").ok K)) rfl)
  g_InvalidSide := He.glo_ok X G (c.fact 47 (f := (fun K => (He.Fa.glo "InvalidSide").ok K)) rfl)
  g_InvalidNumber := He.glo_ok X G (c.fact 48 (f := (fun K => (He.Fa.glo "InvalidNumber").ok K)) rfl)
  g_NotStanding := He.glo_ok X G (c.fact 49 (f := (fun K => (He.Fa.glo "NotStanding").ok K)) rfl)
  g_NotLying := He.glo_ok X G (c.fact 50 (f := (fun K => (He.Fa.glo "NotLying").ok K)) rfl)
  g_InvalidOperation := He.glo_ok X G (c.fact 51 (f := (fun K => (He.Fa.glo "InvalidOperation").ok K)) rfl)
  g_Contradiction := He.glo_ok X G (c.fact 52 (f := (fun K => (He.Fa.glo "Contradiction").ok K)) rfl)
  g_NotationError := He.glo_ok X G (c.fact 53 (f := (fun K => (He.Fa.glo "NotationError").ok K)) rfl)
  g_InvalidCount := He.glo_ok X G (c.fact 54 (f := (fun K => (He.Fa.glo "InvalidCount").ok K)) rfl)
  g_DecodeError := He.glo_ok X G (c.fact 55 (f := (fun K => (He.Fa.glo "DecodeError").ok K)) rfl)
  g_Row := He.glo_ok X G (c.fact 56 (f := (fun K => (He.Fa.glo "Row").ok K)) rfl)
  c_Row := He.cls_ok (c.fact 57 (f := (fun K => (He.Fa.cls "Row").ok K)) rfl)
  mk_Row := He.mkr_ok (c.fact 58 (f := (fun K => (He.Fa.mkr "Row").ok K)) rfl)
  sf_Row := c.fact 59 (f := (fun K => PySem.W.selfFirst K (He.ga K "Row"))) rfl
  ne_Row := c.fact 60 (f := (fun K => neOk K (He.ga K "Row"))) rfl
  is_Row := c.fact 61 (f := (fun K => isOk K (He.ga K "Row"))) rfl
  sh_Row := c.fact 62 (f := (fun K => shOk K (He.ga K "Row") "rshift")) rfl
  na_Row_blocks := He.noat_ok (c.fact 63 (f := (fun K => (He.Fa.noat "Row" "blocks").ok K)) rfl)
  ixs := fun a ha => List.all_eq_true.mp (c.fact 64 (f := (fun K => xcL.all fun a => isXB K (He.ga K a))) rfl) a ha
  ems := fun a ha => of_decide_eq_true (List.all_eq_true.mp (c.fact 65 (f := (fun K => xcL.all fun a => decide (PySem.W.exmOne K (.ref (He.ga K a)) (.ref (He.ga K "StoneError")) = some true))) rfl) a ha)
  kis := fun a ha => of_decide_eq_true (List.all_eq_true.mp (c.fact 66 (f := (fun K => kiL.all fun p => decide (PySem.W.kitOne K (.ref (He.ga K p.1)) (.ref (He.ga K p.2.1)) = some p.2.2))) rfl) a ha)
  kvs := fun a ha => of_decide_eq_true (List.all_eq_true.mp (c.fact 67 (f := (fun K => xcL.all fun a => decide (PySem.W.kitOne K (.ref (He.ga K a)) (.type "ValueError") = some true))) rfl) a ha)
  nofs := fun a ha f hf => of_decide_eq_true (List.all_eq_true.mp (List.all_eq_true.mp (c.fact 68 (f := (fun K => xcL.all fun a => xfL.all fun f => decide (PySem.W.findIn K (.ref (He.ga K a)) f = some none))) rfl) a ha) f hf)
  bcx := c.fact 69 (f := (fun K => baseB K (He.ga K "StoneError"))) rfl
  ox_InvalidRow := oexB_ok (c.fact 70 (f := (fun K => oexB K (He.ga K "InvalidRow"))) rfl)
  in_InvalidRow := of_decide_eq_true (c.fact 71 (f := (fun K => decide (PySem.W.findIn K (.ref (He.ga K "InvalidRow")) "__init__" = some (some (.ref (He.ma K (He.ga K "InvalidRow") "__init__")))))) rfl)
  it_InvalidRow := of_decide_eq_true (c.fact 72 (f := (fun K => decide (PySem.W.typeIn K (.ref (He.ma K (He.ga K "InvalidRow") "__init__")) = some (.type "function")))) rfl)
  ox_NotationError := oexB_ok (c.fact 73 (f := (fun K => oexB K (He.ga K "NotationError"))) rfl)
  in_NotationError := of_decide_eq_true (c.fact 74 (f := (fun K => decide (PySem.W.findIn K (.ref (He.ga K "NotationError")) "__init__" = some (some (.ref (He.ma K (He.ga K "NotationError") "__init__")))))) rfl)
  it_NotationError := of_decide_eq_true (c.fact 75 (f := (fun K => decide (PySem.W.typeIn K (.ref (He.ma K (He.ga K "NotationError") "__init__")) = some (.type "function")))) rfl)
  tbs := fun g hg => List.all_eq_true.mp (c.fact 76 (f := (fun K => ltL.all fun g => tabB K (He.ga K g))) rfl) g hg
  tbn := of_decide_eq_true (c.fact 77 (f := (fun K => decide (ltL.map fun g => tabA K (He.ga K g)).Nodup)) rfl)
-- law index 48
local macro_rules | `(tactic| walk_at "vis") => `(tactic| first | exact Or.inl rfl | exact Or.inr (Or.inl rfl) | exact Or.inr (Or.inr rfl))
local macro_rules | `(tactic| walk_at "loc") => `(tactic| first | exact Or.inl rfl | exact Or.inr rfl)
/-! is_integer -/
noncomputable def m_is_integer (a0 : D) (a1 : D) (a2 : D) : Option (D) :=
  (dIsi Kd.isInt a0).bind fun t1 => (cond t1 ((dIsi Kd.isBool a0).bind fun t2 => (cond (!t2) ((dLe a1 a0).bind fun t3 => (dLe a0 a2).bind fun t4 => some (t3 && t4)) (some false)).bind fun t5 => some t5) (some false)).bind fun t6 => some (.bl t6)
def R_is_integer (G : Str → Addr) : FSpec := fun xs os r os' => ∃ (a0 : D) (a1 : D) (a2 : D) , xs = [.d a0, .d a1, .d a2] ∧ os = [] ∧ os' = [] ∧ ∃ t, r = t ∧ m_is_integer a0 a1 a2 = some t
section
variable {P : Program} {w : World} {K : PySem.W.Frag} {mg : Str → Option Value} {base : Heap}
set_option maxHeartbeats 4000000 in
theorem ok_is_integer (T : Tx K mg) : FnR P w K mg base CX0 1 (He.ga K "is_integer") (spF K (R_is_integer (He.ga K))) := by
  obtain ⟨fd, F⟩ := T.d_is_integer
  have nd := sc_is_integer.nd
  have hb : Binds K fd ["value", "low", "high"] [] := F.bindsN fun _ _ _ _ _ _ us hl => match us, hl with | [_, _, _], _ => rfl
  refine fn_D F sc_is_integer hb ?_ ?_
  · rintro xs os r os' ⟨a0, a1, a2, rfl, rfl, rfl, t, rfl, _⟩
    exact ⟨rfl, rfl, by simp⟩
  · rintro cdv A outer s_ H E hr xs os r os' ⟨a0, a1, a2, rfl, rfl, rfl, t, rfl, h⟩ _
    have f_int := T.f_int
    have f_isinstance := T.f_isinstance
    have f_bool := T.f_bool
    unfold m_is_integer at h
    refine sds_eq (ρ1 := ⟨0, [some (.d a0), some (.d a1), some (.d a2)], []⟩) ?_ rfl
    replace h := bnd h
    obtain ⟨t1, h1, h⟩ := h
    replace h := bnd h
    obtain ⟨t6, h6, h⟩ := h
    cases h
    exact sds_ret (ed_andM (ed_blt (cb_isiM kit_int h1) (ad_cons (ed_v rfl (.inl rfl) rfl rfl) (ad_cons (ed_bty f_int rfl boot_int (by decide) rfl) ad_nil rfl) rfl) f_isinstance boot_isinstance rfl (by decide) rfl rfl rfl) h6 (fun h => by replace h := bnd h; obtain ⟨t2, h2, h⟩ := h; replace h := bnd h; obtain ⟨t5, h5, h⟩ := h; exact ED.smB h (ed_andM (ed_not (ed_blt (cb_isiM kit_bool h2) (ad_cons (ed_v rfl (.inl rfl) rfl rfl) (ad_cons (ed_bty f_bool rfl boot_bool (by decide) rfl) ad_nil rfl) rfl) f_isinstance boot_isinstance rfl (by decide) rfl rfl rfl)) h5 (fun h => by replace h := bnd h; obtain ⟨t3, h3, h⟩ := h; replace h := bnd h; obtain ⟨t4, h4, h⟩ := h; exact ED.smB h (ed_one (ed_leleM (ed_v rfl (.inl rfl) rfl rfl) (ed_v rfl (.inl rfl) rfl rfl) (ed_v rfl (.inl rfl) rfl rfl) h3 h4 rfl)))))) ⟨rfl, rfl⟩
end
theorem CG_is_integer {P : Program} {w : World} {K : PySem.W.Frag} {mg : Str → Option Value} {base : Heap} {A : Around} {k : Nat} (T : Tx K mg) (hr : Room k A) (h : 1 ≤ k) : CGs P w K mg base A "is_integer" (R_is_integer (He.ga K)) := ⟨_, _, ok_is_integer T, hr.mono h, T.g_is_integer, kp_of T.d_is_integer⟩

/-! is_stone -/
noncomputable def m_is_stone (a0 : D) (a1 : D) : Option (D) :=
  (dM2 a0).bind fun m3 => (match m3 with | some (x1, x2) => (dIsi Kd.isTup a0).bind fun t4 => (dB (.bl t4)).bind fun t5 => cond t5 ((m_is_integer x1 a1 (.int 1000000000)).bind fun t6 => (dB t6).bind fun t7 => (cond t7 ((m_is_integer x2 (.int 1) (.int 1000000000)).bind fun t8 => (dB t8).bind fun t9 => some t9) (some false)).bind fun t10 => some (.bl t10)) (some (.bl false)) | none => some (.bl false))
def R_is_stone (G : Str → Addr) : FSpec := fun xs os r os' => ∃ (a0 : D) (a1 : D) , xs = [.d a0, .d a1] ∧ os = [] ∧ os' = [] ∧ ∃ t, r = t ∧ m_is_stone a0 a1 = some t
section
variable {P : Program} {w : World} {K : PySem.W.Frag} {mg : Str → Option Value} {base : Heap}
set_option maxHeartbeats 4000000 in
theorem ok_is_stone (T : Tx K mg) : FnR P w K mg base CX0 2 (He.ga K "is_stone") (spF K (R_is_stone (He.ga K))) := by
  obtain ⟨fd, F⟩ := T.d_is_stone
  have nd := sc_is_stone.nd
  have hb : Binds K fd ["value", "least"] [] := F.bindsN fun _ _ _ _ _ _ us hl => match us, hl with | [_, _], _ => rfl
  refine fn_D F sc_is_stone hb ?_ ?_
  · rintro xs os r os' ⟨a0, a1, rfl, rfl, rfl, t, rfl, _⟩
    exact ⟨rfl, rfl, by simp⟩
  · rintro cdv A outer s_ H E hr xs os r os' ⟨a0, a1, rfl, rfl, rfl, t, rfl, h⟩ _
    have f_tuple := T.f_tuple
    have f_isinstance := T.f_isinstance
    have cg_is_integer := CG_is_integer (P := P) (w := w) (base := base) T hr (by decide)
    obtain ⟨t_MAX_PLACE, v_MAX_PLACE⟩ := T.v_MAX_PLACE
    obtain ⟨t_MAX_HEIGHT, v_MAX_HEIGHT⟩ := T.v_MAX_HEIGHT
    unfold m_is_stone at h
    refine sds_eq (ρ1 := ⟨0, [some (.d a0), some (.d a1), none, none], []⟩) ?_ rfl
    replace h := bnd h
    obtain ⟨m3, h1, h⟩ := h
    rcases m3 with _ | ⟨x1, x2⟩
    · try dsimp only at h
      refine sds_matchMiss (i := 2) (j := 3) (ed_v rfl (.inl rfl) rfl rfl) (dM2_miss h1) ?_ rfl nd rfl rfl (.inl rfl) (.inl rfl) (.inl rfl) (.inl rfl)
      cases h
      exact sds_ret ed_bl ⟨rfl, rfl⟩
    · try dsimp only at h
      replace h := bnd h
      obtain ⟨t4, h2, h⟩ := h
      replace h := bnd h
      obtain ⟨t5, h3, h⟩ := h
      refine sds_matchM 2 3 (ed_v rfl (.inl rfl) rfl rfl) (dM2_hit h1) (td_valM (ed_blt (cb_isiM kit_tup h2) (ad_cons (ed_v rfl (.inl rfl) rfl rfl) (ad_cons (ed_bty f_tuple rfl boot_tuple (by decide) rfl) ad_nil rfl) rfl) f_isinstance boot_isinstance rfl (by decide) rfl rfl rfl) h3 (fun _ => rfl)) h (fun h => ?_) (fun h => ?_) rfl nd rfl rfl (.inl rfl) (.inl rfl) (.inl rfl) (.inl rfl)
      · replace h := bnd h
        obtain ⟨t6, h4, h⟩ := h
        replace h := bnd h
        obtain ⟨t7, h5, h⟩ := h
        replace h := bnd h
        obtain ⟨t10, h8, h⟩ := h
        cases h
        exact sds_ret (ed_andM (ed_valM (ed_call cg_is_integer (ad_cons (ed_v rfl (.inl rfl) rfl rfl) (ad_cons (ed_v rfl (.inl rfl) rfl rfl) (ad_cons (ed_gint v_MAX_PLACE rfl rfl) ad_nil rfl) rfl) rfl) allD3 ⟨_, _, _, rfl, rfl, rfl, _, rfl, h4⟩ rfl rfl rfl rfl) h5) h8 (fun h => by replace h := bnd h; obtain ⟨t8, h6, h⟩ := h; replace h := bnd h; obtain ⟨t9, h7, h⟩ := h; exact ED.smB h (ed_one (ed_valM (ed_call cg_is_integer (ad_cons (ed_v rfl (.inl rfl) rfl rfl) (ad_cons ed_int (ad_cons (ed_gint v_MAX_HEIGHT rfl rfl) ad_nil rfl) rfl) rfl) allD3 ⟨_, _, _, rfl, rfl, rfl, _, rfl, h6⟩ rfl rfl rfl rfl) h7)))) ⟨rfl, rfl⟩
      · cases h
        exact sds_ret ed_bl ⟨rfl, rfl⟩
end
theorem CG_is_stone {P : Program} {w : World} {K : PySem.W.Frag} {mg : Str → Option Value} {base : Heap} {A : Around} {k : Nat} (T : Tx K mg) (hr : Room k A) (h : 2 ≤ k) : CGs P w K mg base A "is_stone" (R_is_stone (He.ga K)) := ⟨_, _, ok_is_stone T, hr.mono h, T.g_is_stone, kp_of T.d_is_stone⟩

/-! Row.__init__ -/
noncomputable def m_Row_init (a1 : D) : Option (D) :=
  (dEnum a1).bind fun t1 => (forS (fun d3 => fun (s2 : D) => (dUn2 d3).bind fun z => (match z with | (x4, x5) => (dEq x4 (.int 40)).bind fun t6 => (cond t6 (some true) ((m_is_stone x5 s2).bind fun t7 => (dB t7).bind fun t8 => some (!t8))).bind fun t9 => cond t9 (none) ((dIx x5 (.int 0)).bind fun t10 => (dAddX t10 (.int 1)).bind fun t11 => some t11))) t1 (.int 0)).bind (fun (s12 : D) => some a1)
def R_Row_init (G : Str → Addr) : FSpec := R_rowI m_Row_init (G "Row")
section
variable {P : Program} {w : World} {K : PySem.W.Frag} {mg : Str → Option Value} {base : Heap}
set_option maxHeartbeats 4000000 in
theorem ok_Row_init (T : Tx K mg) : FnR P w K mg base CX0 3 (He.ma K (He.ga K "Row") "__init__") (spF K (starR (R_Row_init (He.ga K)))) := by
  obtain ⟨fd, F⟩ := T.d_Row_init
  have nd := sc_Row_init.nd
  refine fn_starD F sc_Row_init (fun _ _ _ _ _ _ _ => rfl) (fun _ _ _ _ _ _ _ _ _ => rfl) ?_ ?_
  · rintro xs os r os' ⟨a1, rfl, rfl, rfl, t, rfl, _⟩
    exact ⟨rfl, rfl, by rintro o ho; simp at ho; subst ho; exact ⟨_, (AllD.cons AllD.nil)⟩⟩
  · rintro cdv A outer s_ H E hr xs os r os' ⟨a1, rfl, rfl, rfl, t, rfl, h⟩ _
    have f_enumerate := T.f_enumerate
    obtain ⟨t_MAX_STONES_rows, v_MAX_STONES_rows⟩ := T.v_MAX_STONES_rows
    have hu := room_u hr
    have cg_is_stone := CG_is_stone (P := P) (w := w) (base := base) T hr (by decide)
    have k_Row := T.c_Row
    have na_Row_blocks := T.na_Row_blocks
    unfold m_Row_init at h
    refine sds_eq (ρ1 := ⟨1, [some (.loc 0), some (.d a1), none, none, none], [some (.ins (He.ga K "Row") [] [])]⟩) ?_ rfl
    refine sds_set 2 ed_int ?_ nd rfl (.inl rfl) rfl (.inl rfl)
    refine sds_eq (ρ1 := ⟨1, [some (.loc 0), some (.d a1), some (.d (.int 0)), none, none], [some (.ins (He.ga K "Row") [] [])]⟩) ?_ rfl
    replace h := bnd h
    obtain ⟨t1, h1, h⟩ := h
    replace h := bnd h
    obtain ⟨s12, h9, h⟩ := h
    refine sds_forC (vs := [3, 4]) (fun (s2 : D) => (⟨1, [some (.loc 0), some (.d a1), some (.d s2), none, none], [some (.ins (He.ga K "Row") [] [])]⟩ : DL.Env)) (fun _ => rfl) _ (it_enumM (ed_v rfl (.inl rfl) rfl rfl) h1 rfl f_enumerate rfl) h9 ⟨rfl, (wkK (wkK (wkK (wkF (wkF wk0))))), _, rfl⟩ ?_ ?_ PassesOwn.never rfl (fun _ => rfl)
    · rintro d3 s2 s_ h
      try dsimp only at h
      replace h := bnd h
      obtain ⟨⟨x4, x5⟩, h2, h⟩ := h
      obtain rfl := dUn2_ok h2
      refine ⟨_, (tg_tup rfl (tgl_cons (tg_name 3 nd rfl (.inl rfl) (.inl rfl)) (tgl_cons (tg_name 4 nd rfl (.inl rfl) (.inl rfl)) tgl_nil rfl) rfl) rfl rfl), ?_⟩
      refine sds_eq (ρ1 := ⟨1, [some (.loc 0), some (.d a1), some (.d s2), some (.d x4), some (.d x5)], [some (.ins (He.ga K "Row") [] [])]⟩) ?_ rfl
      replace h := bnd h
      obtain ⟨t6, h3, h⟩ := h
      replace h := bnd h
      obtain ⟨t9, h6, h⟩ := h
      refine sds_ifM (TW.td (tw_orM (td_eqM hu (ed_v rfl (.inl rfl) rfl rfl) (ed_gint v_MAX_STONES_rows rfl rfl) h3 rfl) h6 (fun h => by replace h := bnd h; obtain ⟨t7, h4, h⟩ := h; replace h := bnd h; obtain ⟨t8, h5, h⟩ := h; exact TW.sm h (tw_or1 (td_not (td_valM (ed_call cg_is_stone (ad_cons (ed_v rfl (.inl rfl) rfl rfl) (ad_cons (ed_v rfl (.inl rfl) rfl rfl) ad_nil rfl) rfl) allD2 ⟨_, _, rfl, rfl, rfl, _, rfl, h4⟩ rfl rfl rfl rfl) h5 (fun _ => rfl))))))) h (fun h => ?_) (fun h => ?_)
      · cases h
      · refine sds_nil ?_
        replace h := bnd h
        obtain ⟨t10, h7, h⟩ := h
        replace h := bnd h
        obtain ⟨t11, h8, h⟩ := h
        refine sds_set 2 (ed_addX (ed_ixM (ed_v rfl (.inl rfl) rfl rfl) ed_int h7 (fun _ _ => rfl)) ed_int h8) ?_ nd rfl (.inl rfl) rfl (.inl rfl)
        refine sds_eq (ρ1 := ⟨1, [some (.loc 0), some (.d a1), some (.d t11), some (.d x4), some (.d x5)], [some (.ins (He.ga K "Row") [] [])]⟩) ?_ rfl
        cases h
        exact sds_nil ⟨rfl, (wkK (wkK (wkK (wkF (wkF wk0))))), _, rfl⟩
    · try dsimp only at h
      refine sds_eq (ρ1 := ⟨1, [some (.loc 0), some (.d a1), some (.d s12), none, none], [some (.ins (He.ga K "Row") [] [])]⟩) ?_ rfl
      refine sds_fldN (ed_v rfl (.inl rfl) rfl rfl) (ed_v rfl (.inl rfl) rfl rfl) rfl ?_ k_Row na_Row_blocks (by decide) (by decide) rfl
      refine sds_eq (ρ1 := ⟨1, [some (.loc 0), some (.d a1), some (.d s12), none, none], [some (.ins (He.ga K "Row") ["blocks"] [.d a1])]⟩) ?_ rfl
      cases h
      exact sds_nil ⟨rfl, rfl⟩
end
theorem MK_Row_init {P : Program} {w : World} {K : PySem.W.Frag} {mg : Str → Option Value} {base : Heap} {A : Around} {k : Nat} (T : Tx K mg) (hr : Room k A) (h : 4 ≤ k) : MKs P w K mg base A (He.ga K "Row") "Row" (starR (R_Row_init (He.ga K))) := ⟨_, _, ok_Row_init T, hr.mono h, T.mk_Row, T.g_Row⟩

/-! Row.__len__ -/
noncomputable def m_Row_len (a0 : D) : Option (D) :=
  (dLen a0).bind fun t1 => some t1
def R_Row_len (G : Str → Addr) : FSpec := fun xs os r os' => ∃ (a0 : D) , xs = [.d (rowV (G "Row") a0)] ∧ os = [] ∧ os' = [] ∧ ∃ t, r = t ∧ m_Row_len a0 = some t
section
variable {P : Program} {w : World} {K : PySem.W.Frag} {mg : Str → Option Value} {base : Heap}
set_option maxHeartbeats 4000000 in
theorem ok_Row_len (T : Tx K mg) : FnR P w K mg base CX0 1 (He.ma K (He.ga K "Row") "__len__") (spF K (R_Row_len (He.ga K))) := by
  obtain ⟨fd, F⟩ := T.d_Row_len
  have nd := sc_Row_len.nd
  have hb : Binds K fd ["self"] [] := F.bindsN fun _ _ _ _ _ _ us hl => match us, hl with | [_], _ => rfl
  refine fn_D F sc_Row_len hb ?_ ?_
  · rintro xs os r os' ⟨a0, rfl, rfl, rfl, t, rfl, _⟩
    exact ⟨rfl, rfl, by simp⟩
  · rintro cdv A outer s_ H E hr xs os r os' ⟨a0, rfl, rfl, rfl, t, rfl, h⟩ _
    have k_Row := T.c_Row
    have na_Row_blocks := T.na_Row_blocks
    have f_len := T.f_len
    unfold m_Row_len at h
    refine sds_eq (ρ1 := ⟨0, [some (.d (rowV (He.ga K "Row") a0))], []⟩) ?_ rfl
    replace h := bnd h
    obtain ⟨t1, h1, h⟩ := h
    cases h
    exact sds_ret (ed_blt (cb_lenM h1) (ad_cons (ed_fld 0 (ed_v rfl (.inl rfl) rfl rfl) k_Row na_Row_blocks rfl rfl) ad_nil rfl) f_len boot_len rfl (by decide) rfl rfl rfl) ⟨rfl, rfl⟩
end
theorem CS_Row_len {P : Program} {w : World} {K : PySem.W.Frag} {mg : Str → Option Value} {base : Heap} {A : Around} {k : Nat} (T : Tx K mg) (hr : Room k A) (h : 2 ≤ k) : CSs P w K mg base A (He.ga K "Row") "__len__" (R_Row_len (He.ga K)) := ⟨_, _, ok_Row_len T, hr.mono h, T.m_Row_len.at_, T.m_Row_len.fn, T.sf_Row⟩

/-! Row.stones -/
noncomputable def m_Row_stones (a0 : D) : Option (D) :=
  some a0
def R_Row_stones (G : Str → Addr) : FSpec := fun xs os r os' => ∃ (a0 : D) , xs = [.d (rowV (G "Row") a0)] ∧ os = [] ∧ os' = [] ∧ ∃ t, r = t ∧ m_Row_stones a0 = some t
section
variable {P : Program} {w : World} {K : PySem.W.Frag} {mg : Str → Option Value} {base : Heap}
set_option maxHeartbeats 4000000 in
theorem ok_Row_stones (T : Tx K mg) : ∃ fd, FnOk P w K mg base CX0 1 (HK.pg K (He.ga K "Row") "stones") fd ["self"] (spF K (R_Row_stones (He.ga K))) ∧ Binds K fd ["self"] [] := by
  obtain ⟨fd, F⟩ := T.d_Row_stones
  have nd := sc_Row_stones.nd
  have hb : Binds K fd ["self"] [] := F.bindsN fun _ _ _ _ _ _ us hl => match us, hl with | [_], _ => rfl
  refine ⟨fd, fn_Dok F sc_Row_stones ?_ ?_, hb⟩
  · rintro xs os r os' ⟨a0, rfl, rfl, rfl, t, rfl, _⟩
    exact ⟨rfl, rfl, by simp⟩
  · rintro cdv A outer s_ H E hr xs os r os' ⟨a0, rfl, rfl, rfl, t, rfl, h⟩ _
    have k_Row := T.c_Row
    have na_Row_blocks := T.na_Row_blocks
    unfold m_Row_stones at h
    refine sds_eq (ρ1 := ⟨0, [some (.d (rowV (He.ga K "Row") a0))], []⟩) ?_ rfl
    cases h
    exact sds_ret (ed_fld 0 (ed_v rfl (.inl rfl) rfl rfl) k_Row na_Row_blocks rfl rfl) ⟨rfl, rfl⟩
end
theorem CP_Row_stones {P : Program} {w : World} {K : PySem.W.Frag} {mg : Str → Option Value} {base : Heap} {A : Around} {k : Nat} (T : Tx K mg) (hr : Room k A) (h : 2 ≤ k) : CPs P w K mg base A (He.ga K "Row") "stones" (R_Row_stones (He.ga K)) := ⟨T.c_Row, let ⟨fd, F, hb⟩ := ok_Row_stones T; ⟨_, _, fd, _, T.p_Row_stones, F, hb, hr.mono h⟩⟩

/-! row_of -/
noncomputable def m_row_of (a0 : D) : Option (D) :=
  (dSeq a0).bind fun t1 => (dTup t1).bind fun t2 => (m_Row_init t2).bind fun t3 => some t3
def R_row_of (G : Str → Addr) : FSpec := fun xs os r os' => ∃ (a0 : D) , xs = [.d a0] ∧ os = [] ∧ os' = [] ∧ ∃ t, r = (rowV (G "Row") t) ∧ m_row_of a0 = some t
section
variable {P : Program} {w : World} {K : PySem.W.Frag} {mg : Str → Option Value} {base : Heap}
set_option maxHeartbeats 4000000 in
theorem ok_row_of (T : Tx K mg) : FnR P w K mg base CX0 5 (He.ga K "row_of") (spF K (R_row_of (He.ga K))) := by
  obtain ⟨fd, F⟩ := T.d_row_of
  have nd := sc_row_of.nd
  have hb : Binds K fd ["stones"] [] := F.bindsN fun _ _ _ _ _ _ us hl => match us, hl with | [_], _ => rfl
  refine fn_D F sc_row_of hb ?_ ?_
  · rintro xs os r os' ⟨a0, rfl, rfl, rfl, t, rfl, _⟩
    exact ⟨rfl, rfl, by simp⟩
  · rintro cdv A outer s_ H E hr xs os r os' ⟨a0, rfl, rfl, rfl, t, rfl, h⟩ _
    have mk_Row_init := MK_Row_init (P := P) (w := w) (base := base) T hr (by decide)
    unfold m_row_of at h
    refine sds_eq (ρ1 := ⟨0, [some (.d a0)], []⟩) ?_ rfl
    replace h := bnd h
    obtain ⟨t1, h1, h⟩ := h
    replace h := bnd h
    obtain ⟨t2, h2, h⟩ := h
    replace h := bnd h
    obtain ⟨t3, h3, h⟩ := h
    cases h
    exact sds_ret (ed_makeRS mk_Row_init (ed_v rfl (.inl rfl) rfl rfl) h1 h2 h3 rfl rfl rfl) ⟨rfl, rfl⟩
end
theorem CG_row_of {P : Program} {w : World} {K : PySem.W.Frag} {mg : Str → Option Value} {base : Heap} {A : Around} {k : Nat} (T : Tx K mg) (hr : Room k A) (h : 5 ≤ k) : CGs P w K mg base A "row_of" (R_row_of (He.ga K)) := ⟨_, _, ok_row_of T, hr.mono h, T.g_row_of, kp_of T.d_row_of⟩

/-! Row.__add__ -/
noncomputable def m_Row_add (a0 : D) (a1 : D) : Option (D) :=
  (dAddX a0 a1).bind fun t1 => (m_row_of t1).bind fun t2 => some t2
def R_Row_add (G : Str → Addr) : FSpec := fun xs os r os' => ∃ (a0 : D) (a1 : D) , xs = [.d (rowV (G "Row") a0), .d (rowV (G "Row") a1)] ∧ os = [] ∧ os' = [] ∧ ∃ t, r = (rowV (G "Row") t) ∧ m_Row_add a0 a1 = some t
section
variable {P : Program} {w : World} {K : PySem.W.Frag} {mg : Str → Option Value} {base : Heap}
set_option maxHeartbeats 4000000 in
theorem ok_Row_add (T : Tx K mg) : FnR P w K mg base CX0 6 (He.ma K (He.ga K "Row") "__add__") (spF K (R_Row_add (He.ga K))) := by
  obtain ⟨fd, F⟩ := T.d_Row_add
  have nd := sc_Row_add.nd
  have hb : Binds K fd ["self", "other"] [] := F.bindsN fun _ _ _ _ _ _ us hl => match us, hl with | [_, _], _ => rfl
  refine fn_D F sc_Row_add hb ?_ ?_
  · rintro xs os r os' ⟨a0, a1, rfl, rfl, rfl, t, rfl, _⟩
    exact ⟨rfl, rfl, by simp⟩
  · rintro cdv A outer s_ H E hr xs os r os' ⟨a0, a1, rfl, rfl, rfl, t, rfl, h⟩ _
    have cg_row_of := CG_row_of (P := P) (w := w) (base := base) T hr (by decide)
    have k_Row := T.c_Row
    have na_Row_blocks := T.na_Row_blocks
    unfold m_Row_add at h
    refine sds_eq (ρ1 := ⟨0, [some (.d (rowV (He.ga K "Row") a0)), some (.d (rowV (He.ga K "Row") a1))], []⟩) ?_ rfl
    replace h := bnd h
    obtain ⟨t1, h1, h⟩ := h
    replace h := bnd h
    obtain ⟨t2, h2, h⟩ := h
    cases h
    exact sds_ret (ed_call cg_row_of (ad_cons (ed_addX (ed_fld 0 (ed_v rfl (.inl rfl) rfl rfl) k_Row na_Row_blocks rfl rfl) (ed_fld 0 (ed_v rfl (.inl rfl) rfl rfl) k_Row na_Row_blocks rfl rfl) h1) ad_nil rfl) allD1 ⟨_, rfl, rfl, rfl, _, rfl, h2⟩ rfl rfl rfl rfl) ⟨rfl, rfl⟩
end
theorem CS_Row_add {P : Program} {w : World} {K : PySem.W.Frag} {mg : Str → Option Value} {base : Heap} {A : Around} {k : Nat} (T : Tx K mg) (hr : Room k A) (h : 7 ≤ k) : CSs P w K mg base A (He.ga K "Row") "__add__" (R_Row_add (He.ga K)) := ⟨_, _, ok_Row_add T, hr.mono h, T.m_Row_add.at_, T.m_Row_add.fn, T.sf_Row⟩

/-! is_number -/
noncomputable def m_is_number (a0 : D) : Option (D) :=
  (dLenX a0).bind fun t1 => (dLe (.int 1) t1).bind fun t2 => (dLe t1 (.int 10)).bind fun t3 => (cond (!(t2 && t3)) (some true) ((dSeqX a0).bind fun t4 => (lcG (fun d5 => (dInS d5 (.str "0123456789")).bind fun t6 => some (some (.bl t6))) t4).bind fun t7 => (dAll (.lst t7)).bind fun t8 => (dB t8).bind fun t9 => some (!t9))).bind fun t10 => cond t10 (some (.bl false)) ((dEq a0 (.str "0")).bind fun t11 => (cond t11 (some true) ((dIxX a0 (.int 0)).bind fun t12 => (dNe t12 (.str "0")).bind fun t13 => some t13)).bind fun t14 => some (.bl t14))
def R_is_number (G : Str → Addr) : FSpec := fun xs os r os' => ∃ (a0 : D) , xs = [.d a0] ∧ os = [] ∧ os' = [] ∧ ∃ t, r = t ∧ m_is_number a0 = some t
section
variable {P : Program} {w : World} {K : PySem.W.Frag} {mg : Str → Option Value} {base : Heap}
set_option maxHeartbeats 4000000 in
theorem ok_is_number (T : Tx K mg) : FnR P w K mg base CX0 1 (He.ga K "is_number") (spF K (R_is_number (He.ga K))) := by
  obtain ⟨fd, F⟩ := T.d_is_number
  have nd := sc_is_number.nd
  have hb : Binds K fd ["word"] [] := F.bindsN fun _ _ _ _ _ _ us hl => match us, hl with | [_], _ => rfl
  refine fn_D F sc_is_number hb ?_ ?_
  · rintro xs os r os' ⟨a0, rfl, rfl, rfl, t, rfl, _⟩
    exact ⟨rfl, rfl, by simp⟩
  · rintro cdv A outer s_ H E hr xs os r os' ⟨a0, rfl, rfl, rfl, t, rfl, h⟩ _
    have f_len := T.f_len
    obtain ⟨t_MAX_DIGITS, v_MAX_DIGITS⟩ := T.v_MAX_DIGITS
    obtain ⟨t_DIGITS, v_DIGITS⟩ := T.v_DIGITS
    have f_all := T.f_all
    have hu := room_u hr
    unfold m_is_number at h
    refine sds_eq (ρ1 := ⟨0, [some (.d a0), none], []⟩) ?_ rfl
    replace h := bnd h
    obtain ⟨t1, h1, h⟩ := h
    replace h := bnd h
    obtain ⟨t2, h2, h⟩ := h
    replace h := bnd h
    obtain ⟨t3, h3, h⟩ := h
    replace h := bnd h
    obtain ⟨t10, h9, h⟩ := h
    refine sds_ifM (TW.td (tw_orM (td_not (td_leleM ed_int (ed_blt (cb_lenX h1) (ad_cons (ed_v rfl (.inl rfl) rfl rfl) ad_nil rfl) f_len boot_len rfl (by decide) rfl rfl rfl) (ed_gint v_MAX_DIGITS rfl rfl) h2 h3 rfl)) h9 (fun h => by replace h := bnd h; obtain ⟨t4, h4, h⟩ := h; replace h := bnd h; obtain ⟨t7, h6, h⟩ := h; replace h := bnd h; obtain ⟨t8, h7, h⟩ := h; replace h := bnd h; obtain ⟨t9, h8, h⟩ := h; exact TW.sm h (tw_or1 (td_not (td_valM (ed_blt (cb_allM rfl h7) (ad_cons (ed_lcC (own := [("digit", 1)]) (it_seqX (ed_v rfl (.inl rfl) rfl rfl) h4) h6 (fun d5 o h => by replace h := bnd h; obtain ⟨t6, h5, h⟩ := h; exact lcP0 (tg_blk 1 nd rfl rfl) (fun _ _ _ _ _ => (ed_inS (ed_v rfl (by walk_at "vis") rfl rfl) (by exact (ed_gstr v_DIGITS rfl rfl)) h5 rfl)) h) (by decide) (blkOk_by rfl) nd rfl (fun _ => rfl)) ad_nil rfl) f_all boot_all rfl (by decide) rfl rfl rfl) h8 (fun _ => rfl))))))) h (fun h => ?_) (fun h => ?_)
    · cases h
      exact sds_ret ed_bl ⟨rfl, rfl⟩
    · refine sds_nil ?_
      replace h := bnd h
      obtain ⟨t11, h10, h⟩ := h
      replace h := bnd h
      obtain ⟨t14, h13, h⟩ := h
      cases h
      exact sds_ret (ed_orM (ed_eqM hu (ed_v rfl (.inl rfl) rfl rfl) ed_str h10 rfl) h13 (fun h => by replace h := bnd h; obtain ⟨t12, h11, h⟩ := h; replace h := bnd h; obtain ⟨t13, h12, h⟩ := h; exact ED.smB h (ed_one (ed_neM hu (ed_ixX (ed_v rfl (.inl rfl) rfl rfl) ed_int h11 (fun _ _ => rfl)) ed_str h12 rfl)))) ⟨rfl, rfl⟩
end
theorem CG_is_number {P : Program} {w : World} {K : PySem.W.Frag} {mg : Str → Option Value} {base : Heap} {A : Around} {k : Nat} (T : Tx K mg) (hr : Room k A) (h : 1 ≤ k) : CGs P w K mg base A "is_number" (R_is_number (He.ga K)) := ⟨_, _, ok_is_number T, hr.mono h, T.g_is_number, kp_of T.d_is_number⟩

/-! format_row -/
noncomputable def m_format_row (a0 : D) : Option (D) :=
  (m_Row_stones a0).bind fun t1 => (dSeqX t1).bind fun t2 => (lcG (fun d3 => (dUn2 d3).bind fun z => (match z with | (x4, x5) => (dFmt (.str "stone")).bind fun t6 => (dFmt x4).bind fun t7 => (dFmt x5).bind fun t8 => (dFstr [t6, (.str " "), t7, (.str " "), t8]).bind fun t9 => some (some t9))) t2).bind fun t10 => (dJoin (.str "\n") (.lst t10)).bind fun t11 => some t11
def R_format_row (G : Str → Addr) : FSpec := fun xs os r os' => ∃ (a0 : D) , xs = [.d (rowV (G "Row") a0)] ∧ os = [] ∧ os' = [] ∧ ∃ t, r = t ∧ m_format_row a0 = some t
section
variable {P : Program} {w : World} {K : PySem.W.Frag} {mg : Str → Option Value} {base : Heap}
set_option maxHeartbeats 4000000 in
theorem ok_format_row (T : Tx K mg) : FnR P w K mg base CX0 3 (He.ga K "format_row") (spF K (R_format_row (He.ga K))) := by
  obtain ⟨fd, F⟩ := T.d_format_row
  have nd := sc_format_row.nd
  have hb : Binds K fd ["row"] [] := F.bindsN fun _ _ _ _ _ _ us hl => match us, hl with | [_], _ => rfl
  refine fn_D F sc_format_row hb ?_ ?_
  · rintro xs os r os' ⟨a0, rfl, rfl, rfl, t, rfl, _⟩
    exact ⟨rfl, rfl, by simp⟩
  · rintro cdv A outer s_ H E hr xs os r os' ⟨a0, rfl, rfl, rfl, t, rfl, h⟩ _
    have cp_Row_stones := CP_Row_stones (P := P) (w := w) (base := base) T hr (by decide)
    obtain ⟨t_WORD, v_WORD⟩ := T.v_WORD
    unfold m_format_row at h
    refine sds_eq (ρ1 := ⟨0, [some (.d (rowV (He.ga K "Row") a0)), none, none], []⟩) ?_ rfl
    replace h := bnd h
    obtain ⟨t1, h1, h⟩ := h
    replace h := bnd h
    obtain ⟨t2, h2, h⟩ := h
    replace h := bnd h
    obtain ⟨t10, h8, h⟩ := h
    replace h := bnd h
    obtain ⟨t11, h9, h⟩ := h
    cases h
    exact sds_ret (ed_joinM ed_str (ed_lcC (own := [("place", 1), ("height", 2)]) (it_seqX (ed_propM cp_Row_stones (ed_v rfl (.inl rfl) rfl rfl) ⟨_, rfl, rfl, rfl, _, rfl, h1⟩) h2) h8 (fun d3 o h => by replace h := bnd h; obtain ⟨⟨x4, x5⟩, h3, h⟩ := h; replace h := bnd h; obtain ⟨t6, h4, h⟩ := h; replace h := bnd h; obtain ⟨t7, h5, h⟩ := h; replace h := bnd h; obtain ⟨t8, h6, h⟩ := h; replace h := bnd h; obtain ⟨t9, h7, h⟩ := h; obtain rfl := dUn2_ok h3; exact lcP0 (blk_tup rfl (blk_cons (tg_blk 1 nd rfl rfl) (blk_cons (tg_blk 2 nd rfl rfl) blk_nil (fun _ _ _ _ _ => rfl)) (fun _ _ _ _ _ => rfl)) (fun _ _ _ _ _ => rfl) (fun _ _ _ _ _ => rfl)) (fun _ _ _ _ _ => (ed_fstr (JD.cons (ed_fmtM (by exact (ed_gstr v_WORD rfl rfl)) h4) (JD.cons ed_str (JD.cons (ed_fmtM (ed_v rfl (by walk_at "vis") rfl rfl) h5) (JD.cons ed_str (JD.cons (ed_fmtM (ed_v rfl (by walk_at "vis") rfl rfl) h6) JD.nil))))) h7)) h) (by decide) (blkOk_by rfl) nd rfl (fun _ => rfl)) h9 rfl rfl rfl) ⟨rfl, rfl⟩
end
theorem CG_format_row {P : Program} {w : World} {K : PySem.W.Frag} {mg : Str → Option Value} {base : Heap} {A : Around} {k : Nat} (T : Tx K mg) (hr : Room k A) (h : 3 ≤ k) : CGs P w K mg base A "format_row" (R_format_row (He.ga K)) := ⟨_, _, ok_format_row T, hr.mono h, T.g_format_row, kp_of T.d_format_row⟩

/-! stone_of -/
noncomputable def m_stone_of (a0 : D) (a1 : D) : Option (D) :=
  (dSplit a1 (.str " ")).bind fun t1 => (dRange1 (.int 3)).bind fun t2 => (forS (fun d3 => fun (_ : PUnit) => (dLenX t1).bind fun t4 => (dLt d3 t4).bind fun t5 => (cond t5 ((dEq d3 (.int 0)).bind fun t6 => (cond t6 ((dIxX t1 d3).bind fun t7 => (dEq t7 (.str "stone")).bind fun t8 => some (.bl t8)) ((dIxX t1 d3).bind fun t9 => (m_is_number t9).bind fun t10 => some t10)).bind fun t11 => (dB t11).bind fun t12 => some t12) (some false)).bind fun t13 => (dB (.bl t13)).bind fun t14 => cond (!t14) (none) (some PUnit.unit)) t2 PUnit.unit).bind (fun (_ : PUnit) => (dLenX t1).bind fun t15 => (dGt t15 (.int 3)).bind fun t16 => cond t16 (none) ((dIxX t1 (.int 1)).bind fun t17 => (dIntX t17).bind fun t18 => (dIxX t1 (.int 2)).bind fun t19 => (dIntX t19).bind fun t20 => some (.tup [t18, t20])))
def R_stone_of (G : Str → Addr) : FSpec := fun xs os r os' => ∃ (a0 : D) (a1 : D) , xs = [.d a0, .d a1] ∧ os = [] ∧ os' = [] ∧ ∃ t, r = t ∧ m_stone_of a0 a1 = some t
section
variable {P : Program} {w : World} {K : PySem.W.Frag} {mg : Str → Option Value} {base : Heap}
set_option maxHeartbeats 4000000 in
theorem ok_stone_of (T : Tx K mg) : FnR P w K mg base CX0 2 (He.ga K "stone_of") (spF K (R_stone_of (He.ga K))) := by
  obtain ⟨fd, F⟩ := T.d_stone_of
  have nd := sc_stone_of.nd
  have hb : Binds K fd ["number", "line"] [] := F.bindsN fun _ _ _ _ _ _ us hl => match us, hl with | [_, _], _ => rfl
  refine fn_D F sc_stone_of hb ?_ ?_
  · rintro xs os r os' ⟨a0, a1, rfl, rfl, rfl, t, rfl, _⟩
    exact ⟨rfl, rfl, by simp⟩
  · rintro cdv A outer s_ H E hr xs os r os' ⟨a0, a1, rfl, rfl, rfl, t, rfl, h⟩ _
    have f_range := T.f_range
    obtain ⟨t_WORDS, v_WORDS⟩ := T.v_WORDS
    have f_len := T.f_len
    have hu := room_u hr
    obtain ⟨t_WORD, v_WORD⟩ := T.v_WORD
    have cg_is_number := CG_is_number (P := P) (w := w) (base := base) T hr (by decide)
    have f_int := T.f_int
    unfold m_stone_of at h
    refine sds_eq (ρ1 := ⟨0, [some (.d a0), some (.d a1), none, none, none], []⟩) ?_ rfl
    replace h := bnd h
    obtain ⟨t1, h1, h⟩ := h
    refine sds_set 2 (ed_splitM (ed_v rfl (.inl rfl) rfl rfl) ed_str h1 rfl rfl rfl) ?_ nd rfl (.inl rfl) rfl (.inl rfl)
    refine sds_eq (ρ1 := ⟨0, [some (.d a0), some (.d a1), some (.d t1), none, none], []⟩) ?_ rfl
    replace h := bnd h
    obtain ⟨t2, h2, h⟩ := h
    replace h := bnd h
    obtain ⟨_, h14, h⟩ := h
    refine sds_forC (vs := [3]) (fun (_ : PUnit) => (⟨0, [some (.d a0), some (.d a1), some (.d t1), none, none], []⟩ : DL.Env)) (fun _ => rfl) _ (it_range1M (ed_gint v_WORDS rfl rfl) h2 rfl f_range rfl) h14 ⟨rfl, (wkK (wkK (wkK (wkF (wkF wk0))))), _, rfl⟩ ?_ ?_ PassesOwn.never rfl (fun _ => rfl)
    · rintro d3 _ s_ h
      try dsimp only at h
      refine ⟨_, (tg_name 3 nd rfl (.inl rfl) (.inl rfl)), ?_⟩
      refine sds_eq (ρ1 := ⟨0, [some (.d a0), some (.d a1), some (.d t1), some (.d d3), none], []⟩) ?_ rfl
      replace h := bnd h
      obtain ⟨t4, h3, h⟩ := h
      replace h := bnd h
      obtain ⟨t5, h4, h⟩ := h
      replace h := bnd h
      obtain ⟨t13, h12, h⟩ := h
      refine sds_set 4 (ed_andM (ed_ltM (ed_v rfl (.inl rfl) rfl rfl) (ed_blt (cb_lenX h3) (ad_cons (ed_v rfl (.inl rfl) rfl rfl) ad_nil rfl) f_len boot_len rfl (by decide) rfl rfl rfl) h4) h12 (fun h => by replace h := bnd h; obtain ⟨t6, h5, h⟩ := h; replace h := bnd h; obtain ⟨t11, h10, h⟩ := h; replace h := bnd h; obtain ⟨t12, h11, h⟩ := h; exact ED.smB h (ed_one (ed_valM (ed_ifM (td_eqM hu (ed_v rfl (.inl rfl) rfl rfl) ed_int h5 rfl) h10 (fun h => by replace h := bnd h; obtain ⟨t7, h6, h⟩ := h; replace h := bnd h; obtain ⟨t8, h7, h⟩ := h; exact ED.sm (A := none) h (ed_eqM hu (ed_ixX (ed_v rfl (.inl rfl) rfl rfl) (ed_v rfl (.inl rfl) rfl rfl) h6 (fun _ _ => rfl)) (ed_gstr v_WORD rfl rfl) h7 rfl)) (fun h => by replace h := bnd h; obtain ⟨t9, h8, h⟩ := h; replace h := bnd h; obtain ⟨t10, h9, h⟩ := h; exact ED.sm (A := none) h (ed_call cg_is_number (ad_cons (ed_ixX (ed_v rfl (.inl rfl) rfl rfl) (ed_v rfl (.inl rfl) rfl rfl) h8 (fun _ _ => rfl)) ad_nil rfl) allD1 ⟨_, rfl, rfl, rfl, _, rfl, h9⟩ rfl rfl rfl rfl))) h11)))) ?_ nd rfl (.inl rfl) rfl (.inl rfl)
      refine sds_eq (ρ1 := ⟨0, [some (.d a0), some (.d a1), some (.d t1), some (.d d3), some (.d (.bl t13))], []⟩) ?_ rfl
      replace h := bnd h
      obtain ⟨t14, h13, h⟩ := h
      refine sds_ifM (td_not (td_valM (ed_v rfl (.inl rfl) rfl rfl) h13 (fun _ => rfl))) h (fun h => ?_) (fun h => ?_)
      · cases h
      · refine sds_nil ?_
        cases h
        exact sds_nil ⟨rfl, (wkK (wkK (wkK (wkF (wkF wk0))))), _, rfl⟩
    · try dsimp only at h
      refine sds_eq (ρ1 := ⟨0, [some (.d a0), some (.d a1), some (.d t1), none, none], []⟩) ?_ rfl
      replace h := bnd h
      obtain ⟨t15, h15, h⟩ := h
      replace h := bnd h
      obtain ⟨t16, h16, h⟩ := h
      refine sds_ifM (td_gtM (ed_blt (cb_lenX h15) (ad_cons (ed_v rfl (.inl rfl) rfl rfl) ad_nil rfl) f_len boot_len rfl (by decide) rfl rfl rfl) (ed_gint v_WORDS rfl rfl) h16) h (fun h => ?_) (fun h => ?_)
      · cases h
      · refine sds_nil ?_
        replace h := bnd h
        obtain ⟨t17, h17, h⟩ := h
        replace h := bnd h
        obtain ⟨t18, h18, h⟩ := h
        replace h := bnd h
        obtain ⟨t19, h19, h⟩ := h
        replace h := bnd h
        obtain ⟨t20, h20, h⟩ := h
        cases h
        exact sds_ret (ed_tup (ad_cons (ed_bty' (cb_intX h18) (ad_cons (ed_ixX (ed_v rfl (.inl rfl) rfl rfl) ed_int h17 (fun _ _ => rfl)) ad_nil rfl) f_int boot_int rfl (by decide) rfl rfl rfl) (ad_cons (ed_bty' (cb_intX h20) (ad_cons (ed_ixX (ed_v rfl (.inl rfl) rfl rfl) ed_int h19 (fun _ _ => rfl)) ad_nil rfl) f_int boot_int rfl (by decide) rfl rfl rfl) ad_nil rfl) rfl) allD2 (by rw [sizeLine_eq]; exact Nat.le_of_ble_eq_true rfl)) ⟨rfl, rfl⟩
end
theorem CG_stone_of {P : Program} {w : World} {K : PySem.W.Frag} {mg : Str → Option Value} {base : Heap} {A : Around} {k : Nat} (T : Tx K mg) (hr : Room k A) (h : 2 ≤ k) : CGs P w K mg base A "stone_of" (R_stone_of (He.ga K)) := ⟨_, _, ok_stone_of T, hr.mono h, T.g_stone_of, kp_of T.d_stone_of⟩

/-! parse_row -/
noncomputable def m_parse_row (a0 : D) : Option (D) :=
  (dNe a0 (.str "")).bind fun t1 => (cond t1 ((dSplit a0 (.str "\n")).bind fun t2 => some t2) (some (.lst []))).bind fun t3 => (dEnum t3).bind fun t4 => (lcG (fun d5 => (dUn2 d5).bind fun z => (match z with | (x6, x7) => (m_stone_of x6 x7).bind fun t8 => some (some t8))) t4).bind fun t9 => (m_row_of (.lst t9)).bind fun t10 => some t10
def R_parse_row (G : Str → Addr) : FSpec := fun xs os r os' => ∃ (a0 : D) , xs = [.d a0] ∧ os = [] ∧ os' = [] ∧ ∃ t, r = (rowV (G "Row") t) ∧ m_parse_row a0 = some t
section
variable {P : Program} {w : World} {K : PySem.W.Frag} {mg : Str → Option Value} {base : Heap}
set_option maxHeartbeats 4000000 in
theorem ok_parse_row (T : Tx K mg) : FnR P w K mg base CX0 6 (He.ga K "parse_row") (spF K (R_parse_row (He.ga K))) := by
  obtain ⟨fd, F⟩ := T.d_parse_row
  have nd := sc_parse_row.nd
  have hb : Binds K fd ["text"] [] := F.bindsN fun _ _ _ _ _ _ us hl => match us, hl with | [_], _ => rfl
  refine fn_D F sc_parse_row hb ?_ ?_
  · rintro xs os r os' ⟨a0, rfl, rfl, rfl, t, rfl, _⟩
    exact ⟨rfl, rfl, by simp⟩
  · rintro cdv A outer s_ H E hr xs os r os' ⟨a0, rfl, rfl, rfl, t, rfl, h⟩ _
    have hu := room_u hr
    have cg_row_of := CG_row_of (P := P) (w := w) (base := base) T hr (by decide)
    have f_enumerate := T.f_enumerate
    have cg_stone_of := CG_stone_of (P := P) (w := w) (base := base) T hr (by decide)
    unfold m_parse_row at h
    refine sds_eq (ρ1 := ⟨0, [some (.d a0), none, none, none], []⟩) ?_ rfl
    replace h := bnd h
    obtain ⟨t1, h1, h⟩ := h
    replace h := bnd h
    obtain ⟨t3, h3, h⟩ := h
    refine sds_set 1 (ed_ifM (td_neM hu (ed_v rfl (.inl rfl) rfl rfl) ed_str h1 rfl) h3 (fun h => by replace h := bnd h; obtain ⟨t2, h2, h⟩ := h; exact ED.sm (A := none) h (ed_splitM (ed_v rfl (.inl rfl) rfl rfl) ed_str h2 rfl rfl rfl)) (fun h => by exact ED.sm (A := none) h (ed_lst ad_nil AllD.nil (by rw [sizeLine_eq]; exact Nat.le_of_ble_eq_true rfl)))) ?_ nd rfl (.inl rfl) rfl (.inl rfl)
    refine sds_eq (ρ1 := ⟨0, [some (.d a0), some (.d t3), none, none], []⟩) ?_ rfl
    replace h := bnd h
    obtain ⟨t4, h4, h⟩ := h
    replace h := bnd h
    obtain ⟨t9, h7, h⟩ := h
    replace h := bnd h
    obtain ⟨t10, h8, h⟩ := h
    cases h
    exact sds_ret (ed_call cg_row_of (ad_cons (ed_lcC (own := [("number", 2), ("line", 3)]) (it_enumM (ed_v rfl (.inl rfl) rfl rfl) h4 rfl f_enumerate rfl) h7 (fun d5 o h => by replace h := bnd h; obtain ⟨⟨x6, x7⟩, h5, h⟩ := h; replace h := bnd h; obtain ⟨t8, h6, h⟩ := h; obtain rfl := dUn2_ok h5; exact lcP0 (blk_tup rfl (blk_cons (tg_blk 2 nd rfl rfl) (blk_cons (tg_blk 3 nd rfl rfl) blk_nil (fun _ _ _ _ _ => rfl)) (fun _ _ _ _ _ => rfl)) (fun _ _ _ _ _ => rfl) (fun _ _ _ _ _ => rfl)) (fun _ _ _ _ _ => (ed_call cg_stone_of (ad_cons (ed_v rfl (by walk_at "vis") rfl rfl) (ad_cons (ed_v rfl (by walk_at "vis") rfl rfl) ad_nil rfl) rfl) allD2 ⟨_, _, rfl, rfl, rfl, _, rfl, h6⟩ rfl rfl rfl rfl)) h) (by decide) (blkOk_by rfl) nd rfl (fun _ => rfl)) ad_nil rfl) allD1 ⟨_, rfl, rfl, rfl, _, rfl, h8⟩ rfl rfl rfl rfl) ⟨rfl, rfl⟩
end
theorem CG_parse_row {P : Program} {w : World} {K : PySem.W.Frag} {mg : Str → Option Value} {base : Heap} {A : Around} {k : Nat} (T : Tx K mg) (hr : Room k A) (h : 6 ≤ k) : CGs P w K mg base A "parse_row" (R_parse_row (He.ga K)) := ⟨_, _, ok_parse_row T, hr.mono h, T.g_parse_row, kp_of T.d_parse_row⟩

/-! i.InvalidRow -/
section
variable {P : Program} {w : World} {K : PySem.W.Frag} {mg : Str → Option Value} {base : Heap}
set_option maxHeartbeats 4000000 in
theorem X1_InvalidRow {A : Around} {k : Nat} (T : Tx K mg) (hr : Room k A) (h : 2 ≤ k) : XC1 P w K mg base A (He.ga K "InvalidRow") "index" := by
  obtain ⟨fd, F⟩ := T.d_InvalidRow_init
  have hb : Binds K fd ["self", "index"] [] := F.bindsN fun _ _ _ _ _ _ us hl => match us, hl with | [_, _], _ => rfl
  have ok : FnOk P w K mg base CX0 1 (He.ma K (He.ga K "InvalidRow") "__init__") fd ["self", "index"] (spI1 K "index") :=
    ok_init1 (k := 0) F sc_InvalidRow_init rfl (baseB_ok T.g_StoneError T.bcx) (.inl rfl) (.inl rfl) (fun cdv A outer s H E => ⟨jtxt2 rfl (.inl rfl) (by decide +kernel) (by decide) (by decide), rfl, rfl, rfl, rfl, _, rfl⟩) (by decide) (by decide) (by decide)
  exact ⟨T.ox_InvalidRow, T.nofs _ (by decide +kernel) _ (by decide +kernel), _, _, fd, _, T.in_InvalidRow, T.it_InvalidRow, ok, hr.mono h, hb⟩
end

/-! i.NotationError -/
section
variable {P : Program} {w : World} {K : PySem.W.Frag} {mg : Str → Option Value} {base : Heap}
set_option maxHeartbeats 4000000 in
theorem X2_NotationError {A : Around} {k : Nat} (T : Tx K mg) (hr : Room k A) (h : 2 ≤ k) : XC2 P w K mg base A (He.ga K "NotationError") "line" "word" := by
  obtain ⟨fd, F⟩ := T.d_NotationError_init
  have hb : Binds K fd ["self", "line", "word"] [] := F.bindsN fun _ _ _ _ _ _ us hl => match us, hl with | [_, _, _], _ => rfl
  have ok : FnOk P w K mg base CX0 1 (He.ma K (He.ga K "NotationError") "__init__") fd ["self", "line", "word"] (spI2 K "line" "word") :=
    ok_init2 (k := 0) F sc_NotationError_init rfl (baseB_ok T.g_StoneError T.bcx) (.inl rfl) (.inl rfl) (.inl rfl) (fun cdv A outer s H E => ⟨jtxt4 rfl (.inl rfl) rfl (.inl rfl) (by decide +kernel) (by decide +kernel) (by decide) (by decide) (by decide) (by decide), rfl, rfl, rfl, rfl, rfl, _, rfl⟩) (by decide) (by decide) (by decide) (by decide) (by decide)
  exact ⟨T.ox_NotationError, T.nofs _ (by decide +kernel) _ (by decide +kernel), T.nofs _ (by decide +kernel) _ (by decide +kernel), _, _, fd, _, T.in_NotationError, T.it_NotationError, ok, hr.mono h, hb⟩
end

/-! x.Row.__init__ -/
noncomputable def x_Row_init (a1 : D) : Option XN :=
  (dEnum a1).bind fun t1 => forX (fun d3 => fun (s2 : D) => (dUn2 d3).bind fun z => (match z with | (x4, x5) => (dEq x4 (.int 40)).bind fun t6 => (cond t6 (some true) ((m_is_stone x5 s2).bind fun t7 => (dB t7).bind fun t8 => some (!t8))).bind fun t9 => cond t9 ((dSmall x4).bind fun t10 => some ⟨"InvalidRow", ["index"], [.int t10]⟩) (none))) (fun d3 => fun (s2 : D) => (dUn2 d3).bind fun z => (match z with | (x13, x14) => (dEq x13 (.int 40)).bind fun t15 => (cond t15 (some true) ((m_is_stone x14 s2).bind fun t16 => (dB t16).bind fun t17 => some (!t17))).bind fun t18 => cond t18 (none) ((dIx x14 (.int 0)).bind fun t19 => (dAddX t19 (.int 1)).bind fun t20 => some t20))) (fun (s2 : D) => none) t1 (.int 0)
def RX_Row_init (G : Str → Addr) : XSpec := fun xs os x os' => ∃ (a1 : D), xs = [.loc 0, .d a1] ∧ os = [.ins (G "Row") [] []] ∧ os' = [.ins (G "Row") [] []] ∧ ∃ t : XN, x = t.xv G ∧ x_Row_init a1 = some t
section
variable {P : Program} {w : World} {K : PySem.W.Frag} {mg : Str → Option Value} {base : Heap}
set_option maxHeartbeats 4000000 in
theorem xok_Row_init (T : Tx K mg) : FnR P w K mg base (L2.CX P w) 3 (He.ma K (He.ga K "Row") "__init__") (spX K (starX (RX_Row_init (He.ga K)))) := by
  obtain ⟨fd, F⟩ := T.d_Row_init
  have nd := sc_Row_init.nd
  refine fnX_starD F sc_Row_init (fun _ _ _ _ _ _ _ => rfl) (fun _ _ _ _ _ _ _ _ _ => rfl) ?_ ?_
  · rintro xs os r os' ⟨a1, rfl, rfl, rfl, t, rfl, _⟩
    exact ⟨rfl, rfl, by intro o ho; simp at ho; subst ho; exact ⟨_, AllD.nil⟩⟩
  · rintro cdv A outer s_ H E hr xs os r os' ⟨a1, rfl, rfl, rfl, t, rfl, h⟩ _
    have tk : Lets (cxOf (L2.CX P w) P w K mg base n_Row_init "Row.__init__" (defScope s_Row_init) (He.ma K (He.ga K "Row") "__init__") cdv A outer s_ H E) E := cx_lets
    have f_enumerate := T.f_enumerate
    obtain ⟨t_MAX_STONES_rows, v_MAX_STONES_rows⟩ := T.v_MAX_STONES_rows
    have hu := room_u hr
    have cg_is_stone := CG_is_stone (P := P) (w := w) (base := base) T hr (by decide)
    have g_InvalidRow := T.g_InvalidRow
    have x1_InvalidRow := X1_InvalidRow (P := P) (w := w) (base := base) T hr (by decide)
    unfold x_Row_init at h
    refine sx_eq (ρ1 := ⟨1, [some (.loc 0), some (.d a1), none, none, none], [some (.ins (He.ga K "Row") [] [])]⟩) ?_ rfl
    refine sx_step (⟨1, [some (.loc 0), some (.d a1), some (.d (.int 0)), none, none], [some (.ins (He.ga K "Row") [] [])]⟩) ?_ ?_
    · refine sds_set 2 ed_int ?_ nd rfl (.inl rfl) rfl (.inl rfl)
      exact sds_nil rfl
    replace h := bnd h
    obtain ⟨t1, h1, h⟩ := h
    refine sx_forC (vs := [3, 4]) (fun (s2 : D) => (⟨1, [some (.loc 0), some (.d a1), some (.d s2), none, none], [some (.ins (He.ga K "Row") [] [])]⟩ : DL.Env)) (fun _ => rfl) _ _ _ (it_enumM (ed_v rfl (.inl rfl) rfl rfl) h1 rfl f_enumerate rfl) h ⟨rfl, (wkK (wkK (wkK (wkF (wkF wk0))))), _, rfl⟩ ?_ ?_ ?_ (by first | exact PassesOwn.never | exact L2.passes_of rfl) rfl (fun _ => rfl)
    · rintro d3 s2 s_ h
      try dsimp only at h
      replace h := bnd h
      obtain ⟨⟨x13, x14⟩, h10, h⟩ := h
      obtain rfl := dUn2_ok h10
      refine ⟨_, (tg_tup rfl (tgl_cons (tg_name 3 nd rfl (.inl rfl) (.inl rfl)) (tgl_cons (tg_name 4 nd rfl (.inl rfl) (.inl rfl)) tgl_nil rfl) rfl) rfl rfl), ?_⟩
      refine sds_eq (ρ1 := ⟨1, [some (.loc 0), some (.d a1), some (.d s2), some (.d x13), some (.d x14)], [some (.ins (He.ga K "Row") [] [])]⟩) ?_ rfl
      replace h := bnd h
      obtain ⟨t15, h11, h⟩ := h
      replace h := bnd h
      obtain ⟨t18, h14, h⟩ := h
      refine sds_ifM (TW.td (tw_orM (td_eqM hu (ed_v rfl (.inl rfl) rfl rfl) (ed_gint v_MAX_STONES_rows rfl rfl) h11 rfl) h14 (fun h => by replace h := bnd h; obtain ⟨t16, h12, h⟩ := h; replace h := bnd h; obtain ⟨t17, h13, h⟩ := h; exact TW.sm h (tw_or1 (td_not (td_valM (ed_call cg_is_stone (ad_cons (ed_v rfl (.inl rfl) rfl rfl) (ad_cons (ed_v rfl (.inl rfl) rfl rfl) ad_nil rfl) rfl) allD2 ⟨_, _, rfl, rfl, rfl, _, rfl, h12⟩ rfl rfl rfl rfl) h13 (fun _ => rfl))))))) h (fun h => ?_) (fun h => ?_)
      · cases h
      · refine sds_nil ?_
        replace h := bnd h
        obtain ⟨t19, h15, h⟩ := h
        replace h := bnd h
        obtain ⟨t20, h16, h⟩ := h
        refine sds_set 2 (ed_addX (ed_ixM (ed_v rfl (.inl rfl) rfl rfl) ed_int h15 (fun _ _ => rfl)) ed_int h16) ?_ nd rfl (.inl rfl) rfl (.inl rfl)
        refine sds_eq (ρ1 := ⟨1, [some (.loc 0), some (.d a1), some (.d t20), some (.d x13), some (.d x14)], [some (.ins (He.ga K "Row") [] [])]⟩) ?_ rfl
        cases h
        exact sds_nil ⟨rfl, (wkK (wkK (wkK (wkF (wkF wk0))))), _, rfl⟩
    · rintro d3 s2 h
      try dsimp only at h
      replace h := bnd h
      obtain ⟨⟨x4, x5⟩, h2, h⟩ := h
      obtain rfl := dUn2_ok h2
      refine ⟨_, (tg_tup rfl (tgl_cons (tg_name 3 nd rfl (.inl rfl) (.inl rfl)) (tgl_cons (tg_name 4 nd rfl (.inl rfl) (.inl rfl)) tgl_nil rfl) rfl) rfl rfl), ?_⟩
      refine sx_eq (ρ1 := ⟨1, [some (.loc 0), some (.d a1), some (.d s2), some (.d x4), some (.d x5)], [some (.ins (He.ga K "Row") [] [])]⟩) ?_ rfl
      replace h := bnd h
      obtain ⟨t6, h3, h⟩ := h
      replace h := bnd h
      obtain ⟨t9, h6, h⟩ := h
      refine sx_ifM (TW.td (tw_orM (td_eqM hu (ed_v rfl (.inl rfl) rfl rfl) (ed_gint v_MAX_STONES_rows rfl rfl) h3 rfl) h6 (fun h => by replace h := bnd h; obtain ⟨t7, h4, h⟩ := h; replace h := bnd h; obtain ⟨t8, h5, h⟩ := h; exact TW.sm h (tw_or1 (td_not (td_valM (ed_call cg_is_stone (ad_cons (ed_v rfl (.inl rfl) rfl rfl) (ad_cons (ed_v rfl (.inl rfl) rfl rfl) ad_nil rfl) rfl) allD2 ⟨_, _, rfl, rfl, rfl, _, rfl, h4⟩ rfl rfl rfl rfl) h5 (fun _ => rfl))))))) h (fun h => ?_) (fun h => ?_)
      · replace h := bnd h
        obtain ⟨t10, h7, h⟩ := h
        cases h
        obtain ⟨e_, hs_⟩ := dSmall_ok h7
        exact sx_raise1 rfl tk x1_InvalidRow g_InvalidRow rfl (ED.to (ed_v rfl (.inl rfl) rfl rfl) (congrArg VD.d e_) rfl) hs_ rfl
      · refine sx_nil ?_
        cases h
    · rintro s2 h
      try dsimp only at h
      refine sx_eq (ρ1 := ⟨1, [some (.loc 0), some (.d a1), some (.d s2), none, none], [some (.ins (He.ga K "Row") [] [])]⟩) ?_ rfl
      cases h
end
theorem XK_Row_init {P : Program} {w : World} {K : PySem.W.Frag} {mg : Str → Option Value} {base : Heap} {A : Around} {k : Nat} (T : Tx K mg) (hr : Room k A) (h : 4 ≤ k) : XKs P w K mg base A (He.ga K "Row") "Row" (starX (RX_Row_init (He.ga K))) := ⟨_, _, xok_Row_init T, hr.mono h, T.mk_Row, T.g_Row⟩

/-! x.row_of -/
noncomputable def x_row_of (a0 : D) : Option XN :=
  (dSeq a0).bind fun t1 => (dTup t1).bind fun t2 => x_Row_init t2
def RX_row_of (G : Str → Addr) : XSpec := fun xs os x os' => ∃ (a0 : D), xs = [.d a0] ∧ os = [] ∧ os' = [] ∧ ∃ t : XN, x = t.xv G ∧ x_row_of a0 = some t
section
variable {P : Program} {w : World} {K : PySem.W.Frag} {mg : Str → Option Value} {base : Heap}
set_option maxHeartbeats 4000000 in
theorem xok_row_of (T : Tx K mg) : FnR P w K mg base (L2.CX P w) 5 (He.ga K "row_of") (spX K (RX_row_of (He.ga K))) := by
  obtain ⟨fd, F⟩ := T.d_row_of
  have nd := sc_row_of.nd
  have hb : Binds K fd ["stones"] [] := F.bindsN fun _ _ _ _ _ _ us hl => match us, hl with | [_], _ => rfl
  refine fnX_D F sc_row_of hb ?_ ?_
  · rintro xs os r os' ⟨a0, rfl, rfl, rfl, t, rfl, _⟩
    exact ⟨rfl, rfl, by simp⟩
  · rintro cdv A outer s_ H E hr xs os r os' ⟨a0, rfl, rfl, rfl, t, rfl, h⟩ _
    have tk : Lets (cxOf (L2.CX P w) P w K mg base n_row_of "row_of" (defScope s_row_of) (He.ga K "row_of") cdv A outer s_ H E) E := cx_lets
    have mk_Row_init := MK_Row_init (P := P) (w := w) (base := base) T hr (by decide)
    have xk_Row_init := XK_Row_init (P := P) (w := w) (base := base) T hr (by decide)
    unfold x_row_of at h
    refine sx_eq (ρ1 := ⟨0, [some (.d a0)], []⟩) ?_ rfl
    replace h := bnd h
    obtain ⟨t1, h1, h⟩ := h
    replace h := bnd h
    obtain ⟨t2, h2, h⟩ := h
    exact sx_ret (ex_makeRS tk xk_Row_init (ed_v rfl (.inl rfl) rfl rfl) h1 h2 ⟨_, rfl, rfl, rfl, _, rfl, h⟩ rfl rfl rfl) rfl
end
theorem XG_row_of {P : Program} {w : World} {K : PySem.W.Frag} {mg : Str → Option Value} {base : Heap} {A : Around} {k : Nat} (T : Tx K mg) (hr : Room k A) (h : 5 ≤ k) : XGs P w K mg base A "row_of" (RX_row_of (He.ga K)) := ⟨_, _, xok_row_of T, hr.mono h, T.g_row_of, kp_of T.d_row_of⟩

/-! x.stone_of -/
noncomputable def x_stone_of (a0 : D) (a1 : D) : Option XN :=
  (dSplit a1 (.str " ")).bind fun t1 => (dRange1 (.int 3)).bind fun t2 => forX (fun d3 => fun (_ : PUnit) => (dLenX t1).bind fun t4 => (dLt d3 t4).bind fun t5 => (cond t5 ((dEq d3 (.int 0)).bind fun t6 => (cond t6 ((dIxX t1 d3).bind fun t7 => (dEq t7 (.str "stone")).bind fun t8 => some (.bl t8)) ((dIxX t1 d3).bind fun t9 => (m_is_number t9).bind fun t10 => some t10)).bind fun t11 => (dB t11).bind fun t12 => some t12) (some false)).bind fun t13 => (dB (.bl t13)).bind fun t14 => cond (!t14) ((dSmall a0).bind fun t15 => (dSmall d3).bind fun t16 => some ⟨"NotationError", ["word", "line"], [.int t16, .int t15]⟩) (none)) (fun d3 => fun (_ : PUnit) => (dLenX t1).bind fun t17 => (dLt d3 t17).bind fun t18 => (cond t18 ((dEq d3 (.int 0)).bind fun t19 => (cond t19 ((dIxX t1 d3).bind fun t20 => (dEq t20 (.str "stone")).bind fun t21 => some (.bl t21)) ((dIxX t1 d3).bind fun t22 => (m_is_number t22).bind fun t23 => some t23)).bind fun t24 => (dB t24).bind fun t25 => some t25) (some false)).bind fun t26 => (dB (.bl t26)).bind fun t27 => cond (!t27) (none) (some PUnit.unit)) (fun (_ : PUnit) => (dLenX t1).bind fun t28 => (dGt t28 (.int 3)).bind fun t29 => cond t29 ((dSmall a0).bind fun t30 => (dSmall (.int 3)).bind fun t31 => some ⟨"NotationError", ["word", "line"], [.int t31, .int t30]⟩) (none)) t2 PUnit.unit
def RX_stone_of (G : Str → Addr) : XSpec := fun xs os x os' => ∃ (a0 : D) (a1 : D), xs = [.d a0, .d a1] ∧ os = [] ∧ os' = [] ∧ ∃ t : XN, x = t.xv G ∧ x_stone_of a0 a1 = some t
section
variable {P : Program} {w : World} {K : PySem.W.Frag} {mg : Str → Option Value} {base : Heap}
set_option maxHeartbeats 4000000 in
theorem xok_stone_of (T : Tx K mg) : FnR P w K mg base (L2.CX P w) 3 (He.ga K "stone_of") (spX K (RX_stone_of (He.ga K))) := by
  obtain ⟨fd, F⟩ := T.d_stone_of
  have nd := sc_stone_of.nd
  have hb : Binds K fd ["number", "line"] [] := F.bindsN fun _ _ _ _ _ _ us hl => match us, hl with | [_, _], _ => rfl
  refine fnX_D F sc_stone_of hb ?_ ?_
  · rintro xs os r os' ⟨a0, a1, rfl, rfl, rfl, t, rfl, _⟩
    exact ⟨rfl, rfl, by simp⟩
  · rintro cdv A outer s_ H E hr xs os r os' ⟨a0, a1, rfl, rfl, rfl, t, rfl, h⟩ _
    have tk : Lets (cxOf (L2.CX P w) P w K mg base n_stone_of "stone_of" (defScope s_stone_of) (He.ga K "stone_of") cdv A outer s_ H E) E := cx_lets
    have f_range := T.f_range
    obtain ⟨t_WORDS, v_WORDS⟩ := T.v_WORDS
    have f_len := T.f_len
    have hu := room_u hr
    obtain ⟨t_WORD, v_WORD⟩ := T.v_WORD
    have cg_is_number := CG_is_number (P := P) (w := w) (base := base) T hr (by decide)
    have g_NotationError := T.g_NotationError
    have x2_NotationError := X2_NotationError (P := P) (w := w) (base := base) T hr (by decide)
    unfold x_stone_of at h
    refine sx_eq (ρ1 := ⟨0, [some (.d a0), some (.d a1), none, none, none], []⟩) ?_ rfl
    replace h := bnd h
    obtain ⟨t1, h1, h⟩ := h
    refine sx_step (⟨0, [some (.d a0), some (.d a1), some (.d t1), none, none], []⟩) ?_ ?_
    · refine sds_set 2 (ed_splitM (ed_v rfl (.inl rfl) rfl rfl) ed_str h1 rfl rfl rfl) ?_ nd rfl (.inl rfl) rfl (.inl rfl)
      exact sds_nil rfl
    replace h := bnd h
    obtain ⟨t2, h2, h⟩ := h
    refine sx_forC (vs := [3]) (fun (_ : PUnit) => (⟨0, [some (.d a0), some (.d a1), some (.d t1), none, none], []⟩ : DL.Env)) (fun _ => rfl) _ _ _ (it_range1M (ed_gint v_WORDS rfl rfl) h2 rfl f_range rfl) h ⟨rfl, (wkK (wkK (wkK (wkF (wkF wk0))))), _, rfl⟩ ?_ ?_ ?_ (by first | exact PassesOwn.never | exact L2.passes_of rfl) rfl (fun _ => rfl)
    · rintro d3 _ s_ h
      try dsimp only at h
      refine ⟨_, (tg_name 3 nd rfl (.inl rfl) (.inl rfl)), ?_⟩
      refine sds_eq (ρ1 := ⟨0, [some (.d a0), some (.d a1), some (.d t1), some (.d d3), none], []⟩) ?_ rfl
      replace h := bnd h
      obtain ⟨t17, h16, h⟩ := h
      replace h := bnd h
      obtain ⟨t18, h17, h⟩ := h
      replace h := bnd h
      obtain ⟨t26, h25, h⟩ := h
      refine sds_set 4 (ed_andM (ed_ltM (ed_v rfl (.inl rfl) rfl rfl) (ed_blt (cb_lenX h16) (ad_cons (ed_v rfl (.inl rfl) rfl rfl) ad_nil rfl) f_len boot_len rfl (by decide) rfl rfl rfl) h17) h25 (fun h => by replace h := bnd h; obtain ⟨t19, h18, h⟩ := h; replace h := bnd h; obtain ⟨t24, h23, h⟩ := h; replace h := bnd h; obtain ⟨t25, h24, h⟩ := h; exact ED.smB h (ed_one (ed_valM (ed_ifM (td_eqM hu (ed_v rfl (.inl rfl) rfl rfl) ed_int h18 rfl) h23 (fun h => by replace h := bnd h; obtain ⟨t20, h19, h⟩ := h; replace h := bnd h; obtain ⟨t21, h20, h⟩ := h; exact ED.sm (A := none) h (ed_eqM hu (ed_ixX (ed_v rfl (.inl rfl) rfl rfl) (ed_v rfl (.inl rfl) rfl rfl) h19 (fun _ _ => rfl)) (ed_gstr v_WORD rfl rfl) h20 rfl)) (fun h => by replace h := bnd h; obtain ⟨t22, h21, h⟩ := h; replace h := bnd h; obtain ⟨t23, h22, h⟩ := h; exact ED.sm (A := none) h (ed_call cg_is_number (ad_cons (ed_ixX (ed_v rfl (.inl rfl) rfl rfl) (ed_v rfl (.inl rfl) rfl rfl) h21 (fun _ _ => rfl)) ad_nil rfl) allD1 ⟨_, rfl, rfl, rfl, _, rfl, h22⟩ rfl rfl rfl rfl))) h24)))) ?_ nd rfl (.inl rfl) rfl (.inl rfl)
      refine sds_eq (ρ1 := ⟨0, [some (.d a0), some (.d a1), some (.d t1), some (.d d3), some (.d (.bl t26))], []⟩) ?_ rfl
      replace h := bnd h
      obtain ⟨t27, h26, h⟩ := h
      refine sds_ifM (td_not (td_valM (ed_v rfl (.inl rfl) rfl rfl) h26 (fun _ => rfl))) h (fun h => ?_) (fun h => ?_)
      · cases h
      · refine sds_nil ?_
        cases h
        exact sds_nil ⟨rfl, (wkK (wkK (wkK (wkF (wkF wk0))))), _, rfl⟩
    · rintro d3 _ h
      try dsimp only at h
      refine ⟨_, (tg_name 3 nd rfl (.inl rfl) (.inl rfl)), ?_⟩
      refine sx_eq (ρ1 := ⟨0, [some (.d a0), some (.d a1), some (.d t1), some (.d d3), none], []⟩) ?_ rfl
      replace h := bnd h
      obtain ⟨t4, h3, h⟩ := h
      replace h := bnd h
      obtain ⟨t5, h4, h⟩ := h
      replace h := bnd h
      obtain ⟨t13, h12, h⟩ := h
      refine sx_step (⟨0, [some (.d a0), some (.d a1), some (.d t1), some (.d d3), some (.d (.bl t13))], []⟩) ?_ ?_
      · refine sds_set 4 (ed_andM (ed_ltM (ed_v rfl (.inl rfl) rfl rfl) (ed_blt (cb_lenX h3) (ad_cons (ed_v rfl (.inl rfl) rfl rfl) ad_nil rfl) f_len boot_len rfl (by decide) rfl rfl rfl) h4) h12 (fun h => by replace h := bnd h; obtain ⟨t6, h5, h⟩ := h; replace h := bnd h; obtain ⟨t11, h10, h⟩ := h; replace h := bnd h; obtain ⟨t12, h11, h⟩ := h; exact ED.smB h (ed_one (ed_valM (ed_ifM (td_eqM hu (ed_v rfl (.inl rfl) rfl rfl) ed_int h5 rfl) h10 (fun h => by replace h := bnd h; obtain ⟨t7, h6, h⟩ := h; replace h := bnd h; obtain ⟨t8, h7, h⟩ := h; exact ED.sm (A := none) h (ed_eqM hu (ed_ixX (ed_v rfl (.inl rfl) rfl rfl) (ed_v rfl (.inl rfl) rfl rfl) h6 (fun _ _ => rfl)) (ed_gstr v_WORD rfl rfl) h7 rfl)) (fun h => by replace h := bnd h; obtain ⟨t9, h8, h⟩ := h; replace h := bnd h; obtain ⟨t10, h9, h⟩ := h; exact ED.sm (A := none) h (ed_call cg_is_number (ad_cons (ed_ixX (ed_v rfl (.inl rfl) rfl rfl) (ed_v rfl (.inl rfl) rfl rfl) h8 (fun _ _ => rfl)) ad_nil rfl) allD1 ⟨_, rfl, rfl, rfl, _, rfl, h9⟩ rfl rfl rfl rfl))) h11)))) ?_ nd rfl (.inl rfl) rfl (.inl rfl)
        exact sds_nil rfl
      replace h := bnd h
      obtain ⟨t14, h13, h⟩ := h
      refine sx_ifM (td_not (td_valM (ed_v rfl (.inl rfl) rfl rfl) h13 (fun _ => rfl))) h (fun h => ?_) (fun h => ?_)
      · replace h := bnd h
        obtain ⟨t15, h14, h⟩ := h
        replace h := bnd h
        obtain ⟨t16, h15, h⟩ := h
        cases h
        obtain ⟨e1_, hs1_⟩ := dSmall_ok h14
        obtain ⟨e2_, hs2_⟩ := dSmall_ok h15
        exact sx_raise2 rfl tk x2_NotationError g_NotationError rfl (ED.to (ed_v rfl (.inl rfl) rfl rfl) (congrArg VD.d e1_) rfl) (ED.to (ed_v rfl (.inl rfl) rfl rfl) (congrArg VD.d e2_) rfl) hs1_ hs2_ rfl (by decide) rfl rfl
      · refine sx_nil ?_
        cases h
    · rintro _ h
      try dsimp only at h
      refine sx_eq (ρ1 := ⟨0, [some (.d a0), some (.d a1), some (.d t1), none, none], []⟩) ?_ rfl
      replace h := bnd h
      obtain ⟨t28, h27, h⟩ := h
      replace h := bnd h
      obtain ⟨t29, h28, h⟩ := h
      refine sx_ifM (td_gtM (ed_blt (cb_lenX h27) (ad_cons (ed_v rfl (.inl rfl) rfl rfl) ad_nil rfl) f_len boot_len rfl (by decide) rfl rfl rfl) (ed_gint v_WORDS rfl rfl) h28) h (fun h => ?_) (fun h => ?_)
      · replace h := bnd h
        obtain ⟨t30, h29, h⟩ := h
        replace h := bnd h
        obtain ⟨t31, h30, h⟩ := h
        cases h
        obtain ⟨e1_, hs1_⟩ := dSmall_ok h29
        obtain ⟨e2_, hs2_⟩ := dSmall_ok h30
        exact sx_raise2 rfl tk x2_NotationError g_NotationError rfl (ED.to (ed_v rfl (.inl rfl) rfl rfl) (congrArg VD.d e1_) rfl) (ED.to (ed_gint v_WORDS rfl rfl) (congrArg VD.d e2_) rfl) hs1_ hs2_ rfl (by decide) rfl rfl
      · refine sx_nil ?_
        cases h
end
theorem XG_stone_of {P : Program} {w : World} {K : PySem.W.Frag} {mg : Str → Option Value} {base : Heap} {A : Around} {k : Nat} (T : Tx K mg) (hr : Room k A) (h : 3 ≤ k) : XGs P w K mg base A "stone_of" (RX_stone_of (He.ga K)) := ⟨_, _, xok_stone_of T, hr.mono h, T.g_stone_of, kp_of T.d_stone_of⟩

/-! x.parse_row -/
noncomputable def x_parse_row (a0 : D) : Option XN :=
  (dNe a0 (.str "")).bind fun t1 => (cond t1 ((dSplit a0 (.str "\n")).bind fun t2 => some t2) (some (.lst []))).bind fun t3 => (dEnum t3).bind fun t4 => orX (lcXG (fun d5 => (dUn2 d5).bind fun z => (match z with | (x6, x7) => x_stone_of x6 x7)) (fun d5 => (dUn2 d5).bind fun z => (match z with | (x6, x7) => (m_stone_of x6 x7).bind fun t8 => some (some t8))) t4) ((lcG (fun d5 => (dUn2 d5).bind fun z => (match z with | (x6, x7) => (m_stone_of x6 x7).bind fun t8 => some (some t8))) t4).bind fun t9 => x_row_of (.lst t9))
def RX_parse_row (G : Str → Addr) : XSpec := fun xs os x os' => ∃ (a0 : D), xs = [.d a0] ∧ os = [] ∧ os' = [] ∧ ∃ t : XN, x = t.xv G ∧ x_parse_row a0 = some t
section
variable {P : Program} {w : World} {K : PySem.W.Frag} {mg : Str → Option Value} {base : Heap}
set_option maxHeartbeats 4000000 in
theorem xok_parse_row (T : Tx K mg) : FnR P w K mg base (L2.CX P w) 6 (He.ga K "parse_row") (spX K (RX_parse_row (He.ga K))) := by
  obtain ⟨fd, F⟩ := T.d_parse_row
  have nd := sc_parse_row.nd
  have hb : Binds K fd ["text"] [] := F.bindsN fun _ _ _ _ _ _ us hl => match us, hl with | [_], _ => rfl
  refine fnX_D F sc_parse_row hb ?_ ?_
  · rintro xs os r os' ⟨a0, rfl, rfl, rfl, t, rfl, _⟩
    exact ⟨rfl, rfl, by simp⟩
  · rintro cdv A outer s_ H E hr xs os r os' ⟨a0, rfl, rfl, rfl, t, rfl, h⟩ _
    have tk : Lets (cxOf (L2.CX P w) P w K mg base n_parse_row "parse_row" (defScope s_parse_row) (He.ga K "parse_row") cdv A outer s_ H E) E := cx_lets
    have hu := room_u hr
    have cg_row_of := CG_row_of (P := P) (w := w) (base := base) T hr (by decide)
    have f_enumerate := T.f_enumerate
    have cg_stone_of := CG_stone_of (P := P) (w := w) (base := base) T hr (by decide)
    have xg_stone_of := XG_stone_of (P := P) (w := w) (base := base) T hr (by decide)
    have xg_row_of := XG_row_of (P := P) (w := w) (base := base) T hr (by decide)
    unfold x_parse_row at h
    refine sx_eq (ρ1 := ⟨0, [some (.d a0), none, none, none], []⟩) ?_ rfl
    replace h := bnd h
    obtain ⟨t1, h1, h⟩ := h
    replace h := bnd h
    obtain ⟨t3, h3, h⟩ := h
    refine sx_step (⟨0, [some (.d a0), some (.d t3), none, none], []⟩) ?_ ?_
    · refine sds_set 1 (ed_ifM (td_neM hu (ed_v rfl (.inl rfl) rfl rfl) ed_str h1 rfl) h3 (fun h => by replace h := bnd h; obtain ⟨t2, h2, h⟩ := h; exact ED.sm (A := none) h (ed_splitM (ed_v rfl (.inl rfl) rfl rfl) ed_str h2 rfl rfl rfl)) (fun h => by exact ED.sm (A := none) h (ed_lst ad_nil AllD.nil (by rw [sizeLine_eq]; exact Nat.le_of_ble_eq_true rfl)))) ?_ nd rfl (.inl rfl) rfl (.inl rfl)
      exact sds_nil rfl
    replace h := bnd h
    obtain ⟨t4, h4, h⟩ := h
    rcases orX_or h with h | h
    · exact sx_ret (ex_args (ax_here (ex_lcE (own := [("number", 2), ("line", 3)]) (XN.xv _) rfl rfl tk (it_enumM (ed_v rfl (.inl rfl) rfl rfl) h4 rfl f_enumerate rfl) h (fun d5 x_ h => by replace h := bnd h; obtain ⟨⟨x6, x7⟩, h5, h⟩ := h; obtain rfl := dUn2_ok h5; exact lcE0 (blk_tup rfl (blk_cons (tg_blk 2 nd rfl rfl) (blk_cons (tg_blk 3 nd rfl rfl) blk_nil (fun _ _ _ _ _ => rfl)) (fun _ _ _ _ _ => rfl)) (fun _ _ _ _ _ => rfl) (fun _ _ _ _ _ => rfl)) rfl (fun _ _ _ _ _ _ tk => by exact (ex_call tk xg_stone_of (ad_cons (ed_v rfl (by walk_at "vis") rfl rfl) (ad_cons (ed_v rfl (by walk_at "vis") rfl rfl) ad_nil rfl) rfl) allD2 ⟨_, _, rfl, rfl, rfl, _, rfl, h⟩ rfl rfl rfl rfl))) (fun d5 o h => ⟨by replace h := bnd h; obtain ⟨⟨x6, x7⟩, h5, h⟩ := h; replace h := bnd h; obtain ⟨t8, h6, h⟩ := h; cases h; rfl, by replace h := bnd h; obtain ⟨⟨x6, x7⟩, h5, h⟩ := h; replace h := bnd h; obtain ⟨t8, h6, h⟩ := h; obtain rfl := dUn2_ok h5; exact lcP0 (blk_tup rfl (blk_cons (tg_blk 2 nd rfl rfl) (blk_cons (tg_blk 3 nd rfl rfl) blk_nil (fun _ _ _ _ _ => rfl)) (fun _ _ _ _ _ => rfl)) (fun _ _ _ _ _ => rfl) (fun _ _ _ _ _ => rfl)) (fun _ _ _ _ _ => (ed_call cg_stone_of (ad_cons (ed_v rfl (by walk_at "vis") rfl rfl) (ad_cons (ed_v rfl (by walk_at "vis") rfl rfl) ad_nil rfl) rfl) allD2 ⟨_, _, rfl, rfl, rfl, _, rfl, h6⟩ rfl rfl rfl rfl)) h⟩) (by decide) (blkOk_by rfl) nd rfl (fun _ => rfl))) T.g_row_of (kp_of T.d_row_of) rfl) rfl
    replace h := bnd h
    obtain ⟨t9, h7, h⟩ := h
    exact sx_ret (ex_call tk xg_row_of (ad_cons (ed_lcC (own := [("number", 2), ("line", 3)]) (it_enumM (ed_v rfl (.inl rfl) rfl rfl) h4 rfl f_enumerate rfl) h7 (fun d5 o h => by replace h := bnd h; obtain ⟨⟨x6, x7⟩, h5, h⟩ := h; replace h := bnd h; obtain ⟨t8, h6, h⟩ := h; obtain rfl := dUn2_ok h5; exact lcP0 (blk_tup rfl (blk_cons (tg_blk 2 nd rfl rfl) (blk_cons (tg_blk 3 nd rfl rfl) blk_nil (fun _ _ _ _ _ => rfl)) (fun _ _ _ _ _ => rfl)) (fun _ _ _ _ _ => rfl) (fun _ _ _ _ _ => rfl)) (fun _ _ _ _ _ => (ed_call cg_stone_of (ad_cons (ed_v rfl (by walk_at "vis") rfl rfl) (ad_cons (ed_v rfl (by walk_at "vis") rfl rfl) ad_nil rfl) rfl) allD2 ⟨_, _, rfl, rfl, rfl, _, rfl, h6⟩ rfl rfl rfl rfl)) h) (by decide) (blkOk_by rfl) nd rfl (fun _ => rfl)) ad_nil rfl) allD1 ⟨_, rfl, rfl, rfl, _, rfl, h⟩ rfl rfl rfl rfl) rfl
end
theorem XG_parse_row {P : Program} {w : World} {K : PySem.W.Frag} {mg : Str → Option Value} {base : Heap} {A : Around} {k : Nat} (T : Tx K mg) (hr : Room k A) (h : 6 ≤ k) : XGs P w K mg base A "parse_row" (RX_parse_row (He.ga K)) := ⟨_, _, xok_parse_row T, hr.mono h, T.g_parse_row, kp_of T.d_parse_row⟩

/-! _law_dice -/
noncomputable def m_law_dice (a0 : D) : Option (List D) :=
  (dSeq a0).bind fun t1 => (forS (fun d3 => fun (s2 : D) => (dMul s2 (.int 48271)).bind fun t4 => (dInt d3).bind fun t5 => (dMod t5 (.int 2147483647)).bind fun t6 => (dMul t6 (.int 69621)).bind fun t7 => (dAddX t4 t7).bind fun t8 => (dAddX t8 (.int 11)).bind fun t9 => (dInt t9).bind fun t10 => (dMod t10 (.int 2147483647)).bind fun t11 => some t11) t1 (.int 0)).bind (fun (s12 : D) => (dLen a0).bind fun t13 => (dGt t13 (.int 2)).bind fun t14 => (dInt (.bl t14)).bind fun t15 => (dMul s12 t15).bind fun t16 => some ([a0, (.int 0), t16, (.int 0)]))
def R_law_dice (G : Str → Addr) : OSpec := fun xs o => ∃ (a0 : D), xs = [.d a0] ∧ ∃ t, o = .lst t ∧ m_law_dice a0 = some t
section
variable {P : Program} {w : World} {K : PySem.W.Frag} {mg : Str → Option Value} {base : Heap}
set_option maxHeartbeats 4000000 in
theorem ok_law_dice (T : Tx K mg) : FnR P w K mg base CX0 1 (He.ga K "_law_dice") (spO K (R_law_dice (He.ga K))) := by
  obtain ⟨fd, F⟩ := T.d_law_dice
  have nd := sc_law_dice.nd
  have hb : Binds K fd ["_law_script"] [] := F.bindsN fun _ _ _ _ _ _ us hl => match us, hl with | [_], _ => rfl
  refine fn_DO F sc_law_dice hb ?_ ?_
  · rintro xs o ⟨a0, rfl, t, rfl, _⟩
    exact ⟨rfl, trivial⟩
  · rintro cdv A outer s_ H E hr xs o ⟨a0, rfl, t, rfl, h⟩
    have f_int := T.f_int
    have f_len := T.f_len
    unfold m_law_dice at h
    refine sds_eq (ρ1 := ⟨0, [some (.d a0), none, none], []⟩) ?_ rfl
    refine sds_set 1 ed_int ?_ nd rfl (.inl rfl) rfl (.inl rfl)
    refine sds_eq (ρ1 := ⟨0, [some (.d a0), some (.d (.int 0)), none], []⟩) ?_ rfl
    replace h := bnd h
    obtain ⟨t1, h1, h⟩ := h
    replace h := bnd h
    obtain ⟨s12, h10, h⟩ := h
    refine sds_forC (vs := [2]) (fun (s2 : D) => (⟨0, [some (.d a0), some (.d s2), none], []⟩ : DL.Env)) (fun _ => rfl) _ (it_seqM (ed_v rfl (.inl rfl) rfl rfl) h1) h10 ⟨rfl, (wkK (wkK (wkF wk0))), _, rfl⟩ ?_ ?_ PassesOwn.never rfl (fun _ => rfl)
    · rintro d3 s2 s_ h
      try dsimp only at h
      refine ⟨_, (tg_name 2 nd rfl (.inl rfl) (.inl rfl)), ?_⟩
      refine sds_eq (ρ1 := ⟨0, [some (.d a0), some (.d s2), some (.d d3)], []⟩) ?_ rfl
      replace h := bnd h
      obtain ⟨t4, h2, h⟩ := h
      replace h := bnd h
      obtain ⟨t5, h3, h⟩ := h
      replace h := bnd h
      obtain ⟨t6, h4, h⟩ := h
      replace h := bnd h
      obtain ⟨t7, h5, h⟩ := h
      replace h := bnd h
      obtain ⟨t8, h6, h⟩ := h
      replace h := bnd h
      obtain ⟨t9, h7, h⟩ := h
      replace h := bnd h
      obtain ⟨t10, h8, h⟩ := h
      replace h := bnd h
      obtain ⟨t11, h9, h⟩ := h
      refine sds_set 1 (ed_modM (ed_bty' (cb_intM h8) (ad_cons (ed_addX (ed_addX (ed_mulM (ed_v rfl (.inl rfl) rfl rfl) ed_int h2) (ed_mulM (ed_modM (ed_bty' (cb_intM h3) (ad_cons (ed_v rfl (.inl rfl) rfl rfl) ad_nil rfl) f_int boot_int rfl (by decide) rfl rfl rfl) ed_int h4) ed_int h5) h6) ed_int h7) ad_nil rfl) f_int boot_int rfl (by decide) rfl rfl rfl) ed_int h9) ?_ nd rfl (.inl rfl) rfl (.inl rfl)
      refine sds_eq (ρ1 := ⟨0, [some (.d a0), some (.d t11), some (.d d3)], []⟩) ?_ rfl
      cases h
      exact sds_nil ⟨rfl, (wkK (wkK (wkF wk0))), _, rfl⟩
    · try dsimp only at h
      refine sds_eq (ρ1 := ⟨0, [some (.d a0), some (.d s12), none], []⟩) ?_ rfl
      replace h := bnd h
      obtain ⟨t13, h11, h⟩ := h
      replace h := bnd h
      obtain ⟨t14, h12, h⟩ := h
      replace h := bnd h
      obtain ⟨t15, h13, h⟩ := h
      replace h := bnd h
      obtain ⟨t16, h14, h⟩ := h
      cases h
      exact sds_retO (ed_lstO (ad_cons (ed_v rfl (.inl rfl) rfl rfl) (ad_cons ed_int (ad_cons (ed_mulM (ed_v rfl (.inl rfl) rfl rfl) (ed_bty' (cb_intM h13) (ad_cons (ed_gtM (ed_blt (cb_lenM h11) (ad_cons (ed_v rfl (.inl rfl) rfl rfl) ad_nil rfl) f_len boot_len rfl (by decide) rfl rfl rfl) ed_int h12) ad_nil rfl) f_int boot_int rfl (by decide) rfl rfl rfl) h14) (ad_cons ed_int ad_nil rfl) rfl) rfl) rfl) allD4 (by rw [sizeLine_eq]; exact Nat.le_of_ble_eq_true rfl)) rfl
end
theorem OG_law_dice {P : Program} {w : World} {K : PySem.W.Frag} {mg : Str → Option Value} {base : Heap} {A : Around} {k : Nat} (T : Tx K mg) (hr : Room k A) (h : 1 ≤ k) : OGs P w K mg base A "_law_dice" (R_law_dice (He.ga K)) := ⟨_, _, ok_law_dice T, hr.mono h, T.g_law_dice, kp_of T.d_law_dice⟩

/-! _law_next -/
noncomputable def m_law_next (a0 : List D) (a1 : D) : Option (D × List D) :=
  (lIx a0 (.int 3)).bind fun t1 => (dGt t1 (.int 0)).bind fun t2 => cond t2 ((lIx a0 (.int 3)).bind fun t3 => (dInt t3).bind fun t4 => (dMod t4 a1).bind fun t5 => (lIx a0 (.int 3)).bind fun t6 => (dDiv t6 a1).bind fun t7 => (lPut a0 (.int 3) t7).bind fun t8 => some (t5, t8)) ((lIx a0 (.int 1)).bind fun t9 => (dAddX t9 (.int 1)).bind fun t10 => (lPut a0 (.int 1) t10).bind fun t11 => (lIx t11 (.int 1)).bind fun t12 => (lIx t11 (.int 0)).bind fun t13 => (dLen t13).bind fun t14 => (dLe t12 t14).bind fun t15 => cond t15 ((lIx t11 (.int 0)).bind fun t16 => (lIx t11 (.int 1)).bind fun t17 => (dSub t17 (.int 1)).bind fun t18 => (dIx t16 t18).bind fun t19 => (dPow (.int 10) (.int 18)).bind fun t20 => (dGe t19 t20).bind fun t21 => (cond t21 ((dDiv t19 a1).bind fun t22 => some t22) (some (.int 0))).bind fun t23 => (lPut t11 (.int 3) t23).bind fun t24 => (dInt t19).bind fun t25 => (dMod t25 a1).bind fun t26 => some (t26, t24)) ((lIx t11 (.int 2)).bind fun t27 => (dMul t27 (.int 48271)).bind fun t28 => (dInt t28).bind fun t29 => (dMod t29 (.int 2147483647)).bind fun t30 => (lPut t11 (.int 2) t30).bind fun t31 => (lIx t31 (.int 2)).bind fun t32 => (dDiv t32 (.int 7)).bind fun t33 => (dInt t33).bind fun t34 => (dMod t34 a1).bind fun t35 => some (t35, t31)))
def R_law_next (G : Str → Addr) : FSpec := fun xs os r os' => ∃ (a0 : List D) (a1 : D) (b0 : List D), xs = [.loc 0, .d a1] ∧ os = [.lst a0] ∧ os' = [.lst b0] ∧ ∃ t, r = t ∧ m_law_next a0 a1 = some (t, b0)
section
variable {P : Program} {w : World} {K : PySem.W.Frag} {mg : Str → Option Value} {base : Heap}
set_option maxHeartbeats 4000000 in
theorem ok_law_next (T : Tx K mg) : FnR P w K mg base CX0 1 (He.ga K "_law_next") (spF K (R_law_next (He.ga K))) := by
  obtain ⟨fd, F⟩ := T.d_law_next
  have nd := sc_law_next.nd
  have hb : Binds K fd ["_law_dice_here", "_law_many"] [] := F.bindsN fun _ _ _ _ _ _ us hl => match us, hl with | [_, _], _ => rfl
  refine fn_D F sc_law_next hb ?_ ?_
  · rintro xs os r os' ⟨a0, a1, b0, rfl, rfl, rfl, t, rfl, _⟩
    exact ⟨rfl, rfl, by intro o ho; simp at ho; subst ho; exact trivial⟩
  · rintro cdv A outer s_ H E hr xs os r os' ⟨a0, a1, b0, rfl, rfl, rfl, t, rfl, h⟩ _
    have f_int := T.f_int
    have f_len := T.f_len
    unfold m_law_next at h
    refine sds_eq (ρ1 := ⟨1, [some (.loc 0), some (.d a1), none, none], [some (.lst a0)]⟩) ?_ rfl
    replace h := bnd h
    obtain ⟨t1, h1, h⟩ := h
    replace h := bnd h
    obtain ⟨t2, h2, h⟩ := h
    refine sds_ifM (td_gtM (ed_ixOM (ed_v rfl (.inl rfl) rfl rfl) ed_int rfl h1 (fun _ _ => rfl)) ed_int h2) h (fun h => ?_) (fun h => ?_)
    · replace h := bnd h
      obtain ⟨t3, h3, h⟩ := h
      replace h := bnd h
      obtain ⟨t4, h4, h⟩ := h
      replace h := bnd h
      obtain ⟨t5, h5, h⟩ := h
      refine sds_set 2 (ed_modM (ed_bty' (cb_intM h4) (ad_cons (ed_ixOM (ed_v rfl (.inl rfl) rfl rfl) ed_int rfl h3 (fun _ _ => rfl)) ad_nil rfl) f_int boot_int rfl (by decide) rfl rfl rfl) (ed_v rfl (.inl rfl) rfl rfl) h5) ?_ nd rfl (.inl rfl) rfl (.inl rfl)
      refine sds_eq (ρ1 := ⟨1, [some (.loc 0), some (.d a1), some (.d t5), none], [some (.lst a0)]⟩) ?_ rfl
      replace h := bnd h
      obtain ⟨t6, h6, h⟩ := h
      replace h := bnd h
      obtain ⟨t7, h7, h⟩ := h
      replace h := bnd h
      obtain ⟨t8, h8, h⟩ := h
      refine sds_setIxM (ed_divM (ed_ixOM (ed_v rfl (.inl rfl) rfl rfl) ed_int rfl h6 (fun _ _ => rfl)) (ed_v rfl (.inl rfl) rfl rfl) h7) (ed_v rfl (.inl rfl) rfl rfl) ed_int rfl h8 ?_ (fun _ => rfl) rfl rfl rfl
      refine sds_eq (ρ1 := ⟨1, [some (.loc 0), some (.d a1), some (.d t5), none], [some (.lst t8)]⟩) ?_ rfl
      cases h
      exact sds_ret (ed_v rfl (.inl rfl) rfl rfl) ⟨rfl, rfl⟩
    · refine sds_nil ?_
      replace h := bnd h
      obtain ⟨t9, h9, h⟩ := h
      replace h := bnd h
      obtain ⟨t10, h10, h⟩ := h
      replace h := bnd h
      obtain ⟨t11, h11, h⟩ := h
      refine sds_setIxM (ed_addX (ed_ixOM (ed_v rfl (.inl rfl) rfl rfl) ed_int rfl h9 (fun _ _ => rfl)) ed_int h10) (ed_v rfl (.inl rfl) rfl rfl) ed_int rfl h11 ?_ (fun _ => rfl) rfl rfl rfl
      refine sds_eq (ρ1 := ⟨1, [some (.loc 0), some (.d a1), none, none], [some (.lst t11)]⟩) ?_ rfl
      replace h := bnd h
      obtain ⟨t12, h12, h⟩ := h
      replace h := bnd h
      obtain ⟨t13, h13, h⟩ := h
      replace h := bnd h
      obtain ⟨t14, h14, h⟩ := h
      replace h := bnd h
      obtain ⟨t15, h15, h⟩ := h
      refine sds_ifM (td_leM (ed_ixOM (ed_v rfl (.inl rfl) rfl rfl) ed_int rfl h12 (fun _ _ => rfl)) (ed_blt (cb_lenM h14) (ad_cons (ed_ixOM (ed_v rfl (.inl rfl) rfl rfl) ed_int rfl h13 (fun _ _ => rfl)) ad_nil rfl) f_len boot_len rfl (by decide) rfl rfl rfl) h15) h (fun h => ?_) (fun h => ?_)
      · replace h := bnd h
        obtain ⟨t16, h16, h⟩ := h
        replace h := bnd h
        obtain ⟨t17, h17, h⟩ := h
        replace h := bnd h
        obtain ⟨t18, h18, h⟩ := h
        replace h := bnd h
        obtain ⟨t19, h19, h⟩ := h
        refine sds_set 3 (ed_ixM (ed_ixOM (ed_v rfl (.inl rfl) rfl rfl) ed_int rfl h16 (fun _ _ => rfl)) (ed_subM (ed_ixOM (ed_v rfl (.inl rfl) rfl rfl) ed_int rfl h17 (fun _ _ => rfl)) ed_int h18) h19 (fun _ _ => rfl)) ?_ nd rfl (.inl rfl) rfl (.inl rfl)
        refine sds_eq (ρ1 := ⟨1, [some (.loc 0), some (.d a1), none, some (.d t19)], [some (.lst t11)]⟩) ?_ rfl
        replace h := bnd h
        obtain ⟨t20, h20, h⟩ := h
        replace h := bnd h
        obtain ⟨t21, h21, h⟩ := h
        replace h := bnd h
        obtain ⟨t23, h23, h⟩ := h
        replace h := bnd h
        obtain ⟨t24, h24, h⟩ := h
        refine sds_setIxM (ed_ifM (td_geM (ed_v rfl (.inl rfl) rfl rfl) (ed_powM ed_int ed_int h20) h21) h23 (fun h => by replace h := bnd h; obtain ⟨t22, h22, h⟩ := h; exact ED.sm (A := none) h (ed_divM (ed_v rfl (.inl rfl) rfl rfl) (ed_v rfl (.inl rfl) rfl rfl) h22)) (fun h => by exact ED.sm (A := none) h ed_int)) (ed_v rfl (.inl rfl) rfl rfl) ed_int rfl h24 ?_ (fun _ => rfl) rfl rfl rfl
        refine sds_eq (ρ1 := ⟨1, [some (.loc 0), some (.d a1), none, some (.d t19)], [some (.lst t24)]⟩) ?_ rfl
        replace h := bnd h
        obtain ⟨t25, h25, h⟩ := h
        replace h := bnd h
        obtain ⟨t26, h26, h⟩ := h
        cases h
        exact sds_ret (ed_modM (ed_bty' (cb_intM h25) (ad_cons (ed_v rfl (.inl rfl) rfl rfl) ad_nil rfl) f_int boot_int rfl (by decide) rfl rfl rfl) (ed_v rfl (.inl rfl) rfl rfl) h26) ⟨rfl, rfl⟩
      · refine sds_nil ?_
        replace h := bnd h
        obtain ⟨t27, h27, h⟩ := h
        replace h := bnd h
        obtain ⟨t28, h28, h⟩ := h
        replace h := bnd h
        obtain ⟨t29, h29, h⟩ := h
        replace h := bnd h
        obtain ⟨t30, h30, h⟩ := h
        replace h := bnd h
        obtain ⟨t31, h31, h⟩ := h
        refine sds_setIxM (ed_modM (ed_bty' (cb_intM h29) (ad_cons (ed_mulM (ed_ixOM (ed_v rfl (.inl rfl) rfl rfl) ed_int rfl h27 (fun _ _ => rfl)) ed_int h28) ad_nil rfl) f_int boot_int rfl (by decide) rfl rfl rfl) ed_int h30) (ed_v rfl (.inl rfl) rfl rfl) ed_int rfl h31 ?_ (fun _ => rfl) rfl rfl rfl
        refine sds_eq (ρ1 := ⟨1, [some (.loc 0), some (.d a1), none, none], [some (.lst t31)]⟩) ?_ rfl
        replace h := bnd h
        obtain ⟨t32, h32, h⟩ := h
        replace h := bnd h
        obtain ⟨t33, h33, h⟩ := h
        replace h := bnd h
        obtain ⟨t34, h34, h⟩ := h
        replace h := bnd h
        obtain ⟨t35, h35, h⟩ := h
        cases h
        exact sds_ret (ed_modM (ed_bty' (cb_intM h34) (ad_cons (ed_divM (ed_ixOM (ed_v rfl (.inl rfl) rfl rfl) ed_int rfl h32 (fun _ _ => rfl)) ed_int h33) ad_nil rfl) f_int boot_int rfl (by decide) rfl rfl rfl) (ed_v rfl (.inl rfl) rfl rfl) h35) ⟨rfl, rfl⟩
end
theorem CG_law_next {P : Program} {w : World} {K : PySem.W.Frag} {mg : Str → Option Value} {base : Heap} {A : Around} {k : Nat} (T : Tx K mg) (hr : Room k A) (h : 1 ≤ k) : CGs P w K mg base A "_law_next" (R_law_next (He.ga K)) := ⟨_, _, ok_law_next T, hr.mono h, T.g_law_next, kp_of T.d_law_next⟩

/-! _law_pick -/
noncomputable def m_law_pick (a0 : List D) (a1 : D) : Option (D × List D) :=
  (dLen a1).bind fun t1 => (m_law_next a0 t1).bind fun z => (match z with | (t2, o3) => (dIx a1 t2).bind fun t4 => some (t4, o3))
def R_law_pick (G : Str → Addr) : FSpec := fun xs os r os' => ∃ (a0 : List D) (a1 : D) (b0 : List D), xs = [.loc 0, .d a1] ∧ os = [.lst a0] ∧ os' = [.lst b0] ∧ ∃ t, r = t ∧ m_law_pick a0 a1 = some (t, b0)
section
variable {P : Program} {w : World} {K : PySem.W.Frag} {mg : Str → Option Value} {base : Heap}
set_option maxHeartbeats 4000000 in
theorem ok_law_pick (T : Tx K mg) : FnR P w K mg base CX0 2 (He.ga K "_law_pick") (spF K (R_law_pick (He.ga K))) := by
  obtain ⟨fd, F⟩ := T.d_law_pick
  have nd := sc_law_pick.nd
  have hb : Binds K fd ["_law_d", "_law_some"] [] := F.bindsN fun _ _ _ _ _ _ us hl => match us, hl with | [_, _], _ => rfl
  refine fn_D F sc_law_pick hb ?_ ?_
  · rintro xs os r os' ⟨a0, a1, b0, rfl, rfl, rfl, t, rfl, _⟩
    exact ⟨rfl, rfl, by intro o ho; simp at ho; subst ho; exact trivial⟩
  · rintro cdv A outer s_ H E hr xs os r os' ⟨a0, a1, b0, rfl, rfl, rfl, t, rfl, h⟩ _
    have cg_law_next := CG_law_next (P := P) (w := w) (base := base) T hr (by decide)
    have f_len := T.f_len
    unfold m_law_pick at h
    refine sds_eq (ρ1 := ⟨1, [some (.loc 0), some (.d a1)], [some (.lst a0)]⟩) ?_ rfl
    replace h := bnd h
    obtain ⟨t1, h1, h⟩ := h
    replace h := bnd h
    obtain ⟨⟨t2, o3⟩, h2, h⟩ := h
    replace h := bnd h
    obtain ⟨t4, h3, h⟩ := h
    cases h
    exact sds_ret (ed_ixM (ed_v rfl (.inl rfl) rfl rfl) (ed_callL (ns := [0]) cg_law_next (ad_cons (ed_v rfl (.inl rfl) rfl rfl) (ad_cons (ed_blt (cb_lenM h1) (ad_cons (ed_v rfl (.inl rfl) rfl rfl) ad_nil rfl) f_len boot_len rfl (by decide) rfl rfl rfl) ad_nil rfl) rfl) (.cons (.loc rfl) (.cons (.d _) .nil)) (Lend.one rfl trivial) ⟨_, _, _, rfl, rfl, rfl, _, rfl, h2⟩ rfl rfl rfl rfl rfl) h3 (fun _ _ => rfl)) ⟨rfl, rfl⟩
end
theorem CG_law_pick {P : Program} {w : World} {K : PySem.W.Frag} {mg : Str → Option Value} {base : Heap} {A : Around} {k : Nat} (T : Tx K mg) (hr : Room k A) (h : 2 ≤ k) : CGs P w K mg base A "_law_pick" (R_law_pick (He.ga K)) := ⟨_, _, ok_law_pick T, hr.mono h, T.g_law_pick, kp_of T.d_law_pick⟩

/-! _law_stones -/
noncomputable def m_law_stones (a0 : List D) (a1 : D) : Option (D × List D) :=
  (m_law_next a0 (.int 4)).bind fun z => (match z with | (t1, o2) => (dAddX a1 (.int 1)).bind fun t3 => (m_law_next o2 t3).bind fun z => (match z with | (t4, o5) => (dRange1 t4).bind fun t6 => (forS (fun d10 => fun (z : D × List D × List D) => (match z with | (s7, l8, l9) => (m_law_next l8 (.int 2)).bind fun z => (match z with | (t11, o12) => (dIx (.lst [(.int 3), (.int 9)]) t11).bind fun t13 => (m_law_next o12 t13).bind fun z => (match z with | (t14, o15) => (dAddX (.int 1) t14).bind fun t16 => (lApp l9 (.tup [s7, t16])).bind fun t17 => (dAddX s7 (.int 1)).bind fun t18 => (m_law_next o15 (.int 2)).bind fun z => (match z with | (t19, o20) => (dIx (.lst [(.int 2), (.int 5)]) t19).bind fun t21 => (m_law_next o20 t21).bind fun z => (match z with | (t22, o23) => (dAddX t18 t22).bind fun t24 => some (t24, o23, t17))))))) t6 (t1, o5, [])).bind (fun (z : D × List D × List D) => (match z with | (s25, l26, l27) => some ((.lst l27), l26)))))
def R_law_stones (G : Str → Addr) : FSpec := fun xs os r os' => ∃ (a0 : List D) (a1 : D) (b0 : List D), xs = [.loc 0, .d a1] ∧ os = [.lst a0] ∧ os' = [.lst b0] ∧ ∃ t, r = t ∧ m_law_stones a0 a1 = some (t, b0)
section
variable {P : Program} {w : World} {K : PySem.W.Frag} {mg : Str → Option Value} {base : Heap}
set_option maxHeartbeats 4000000 in
theorem ok_law_stones (T : Tx K mg) : FnR P w K mg base CX0 2 (He.ga K "_law_stones") (spF K (R_law_stones (He.ga K))) := by
  obtain ⟨fd, F⟩ := T.d_law_stones
  have nd := sc_law_stones.nd
  have hb : Binds K fd ["_law_d", "_law_most"] [] := F.bindsN fun _ _ _ _ _ _ us hl => match us, hl with | [_, _], _ => rfl
  refine fn_D F sc_law_stones hb ?_ ?_
  · rintro xs os r os' ⟨a0, a1, b0, rfl, rfl, rfl, t, rfl, _⟩
    exact ⟨rfl, rfl, by intro o ho; simp at ho; subst ho; exact trivial⟩
  · rintro cdv A outer s_ H E hr xs os r os' ⟨a0, a1, b0, rfl, rfl, rfl, t, rfl, h⟩ _
    have cg_law_next := CG_law_next (P := P) (w := w) (base := base) T hr (by decide)
    have f_range := T.f_range
    unfold m_law_stones at h
    refine sds_eq (ρ1 := ⟨1, [some (.loc 0), some (.d a1), none, none, none], [some (.lst a0)]⟩) ?_ rfl
    replace h := bnd h
    obtain ⟨⟨t1, o2⟩, h1, h⟩ := h
    refine sds_par 2 3 (ad_cons (ed_lstO ad_nil AllD.nil (by rw [sizeLine_eq]; exact Nat.le_of_ble_eq_true rfl)) (ad_cons (ed_callL (ns := [0]) cg_law_next (ad_cons (ed_v rfl (.inl rfl) rfl rfl) (ad_cons ed_int ad_nil rfl) rfl) (.cons (.loc rfl) (.cons (.d _) .nil)) (Lend.one rfl trivial) ⟨_, _, _, rfl, rfl, rfl, _, rfl, h1⟩ rfl rfl rfl rfl rfl) ad_nil rfl) rfl) ?_ rfl nd rfl rfl (by decide) rfl rfl rfl rfl
    refine sds_eq (ρ1 := ⟨1, [some (.loc 0), some (.d a1), some (.loc 1), some (.d t1), none], [some (.lst o2), some (.lst [])]⟩) ?_ rfl
    replace h := bnd h
    obtain ⟨t3, h2, h⟩ := h
    replace h := bnd h
    obtain ⟨⟨t4, o5⟩, h3, h⟩ := h
    replace h := bnd h
    obtain ⟨t6, h4, h⟩ := h
    replace h := bnd h
    obtain ⟨⟨s25, l26, l27⟩, h15, h⟩ := h
    refine sds_forC (vs := [4]) (fun (z : D × List D × List D) => (match z with | (s7, l8, l9) => (⟨1, [some (.loc 0), some (.d a1), some (.loc 1), some (.d s7), none], [some (.lst l8), some (.lst l9)]⟩ : DL.Env))) (fun _ => rfl) _ (it_range1M (ed_callL (ns := [0]) cg_law_next (ad_cons (ed_v rfl (.inl rfl) rfl rfl) (ad_cons (ed_addX (ed_v rfl (.inl rfl) rfl rfl) ed_int h2) ad_nil rfl) rfl) (.cons (.loc rfl) (.cons (.d _) .nil)) (Lend.one rfl trivial) ⟨_, _, _, rfl, rfl, rfl, _, rfl, h3⟩ rfl rfl rfl rfl rfl) h4 rfl f_range rfl) h15 ⟨rfl, (wkK (wkK (wkK (wkK (wkF wk0))))), _, rfl⟩ ?_ ?_ PassesOwn.never rfl (fun _ => rfl)
    · rintro d10 ⟨s7, l8, l9⟩ s_ h
      try dsimp only at h
      refine ⟨_, (tg_name 4 nd rfl (.inl rfl) (.inl rfl)), ?_⟩
      refine sds_eq (ρ1 := ⟨1, [some (.loc 0), some (.d a1), some (.loc 1), some (.d s7), some (.d d10)], [some (.lst l8), some (.lst l9)]⟩) ?_ rfl
      replace h := bnd h
      obtain ⟨⟨t11, o12⟩, h5, h⟩ := h
      replace h := bnd h
      obtain ⟨t13, h6, h⟩ := h
      replace h := bnd h
      obtain ⟨⟨t14, o15⟩, h7, h⟩ := h
      replace h := bnd h
      obtain ⟨t16, h8, h⟩ := h
      replace h := bnd h
      obtain ⟨t17, h9, h⟩ := h
      refine sds_expr (ed_appM (ed_v rfl (.inl rfl) rfl rfl) (ed_tup (ad_cons (ed_v rfl (.inl rfl) rfl rfl) (ad_cons (ed_addX ed_int (ed_callL (ns := [0]) cg_law_next (ad_cons (ed_v rfl (.inl rfl) rfl rfl) (ad_cons (ed_ixM (ed_lst (ad_cons ed_int (ad_cons ed_int ad_nil rfl) rfl) allD2 (by rw [sizeLine_eq]; exact Nat.le_of_ble_eq_true rfl)) (ed_callL (ns := [0]) cg_law_next (ad_cons (ed_v rfl (.inl rfl) rfl rfl) (ad_cons ed_int ad_nil rfl) rfl) (.cons (.loc rfl) (.cons (.d _) .nil)) (Lend.one rfl trivial) ⟨_, _, _, rfl, rfl, rfl, _, rfl, h5⟩ rfl rfl rfl rfl rfl) h6 (fun _ _ => rfl)) ad_nil rfl) rfl) (.cons (.loc rfl) (.cons (.d _) .nil)) (Lend.one rfl trivial) ⟨_, _, _, rfl, rfl, rfl, _, rfl, h7⟩ rfl rfl rfl rfl rfl) h8) ad_nil rfl) rfl) allD2 (by rw [sizeLine_eq]; exact Nat.le_of_ble_eq_true rfl)) rfl ⟨_, rfl⟩ h9 rfl rfl rfl rfl rfl) ?_ rfl
      refine sds_eq (ρ1 := ⟨1, [some (.loc 0), some (.d a1), some (.loc 1), some (.d s7), some (.d d10)], [some (.lst o15), some (.lst t17)]⟩) ?_ rfl
      replace h := bnd h
      obtain ⟨t18, h10, h⟩ := h
      replace h := bnd h
      obtain ⟨⟨t19, o20⟩, h11, h⟩ := h
      replace h := bnd h
      obtain ⟨t21, h12, h⟩ := h
      replace h := bnd h
      obtain ⟨⟨t22, o23⟩, h13, h⟩ := h
      replace h := bnd h
      obtain ⟨t24, h14, h⟩ := h
      refine sds_set 3 (ed_addX (ed_addX (ed_v rfl (.inl rfl) rfl rfl) ed_int h10) (ed_callL (ns := [0]) cg_law_next (ad_cons (ed_v rfl (.inl rfl) rfl rfl) (ad_cons (ed_ixM (ed_lst (ad_cons ed_int (ad_cons ed_int ad_nil rfl) rfl) allD2 (by rw [sizeLine_eq]; exact Nat.le_of_ble_eq_true rfl)) (ed_callL (ns := [0]) cg_law_next (ad_cons (ed_v rfl (.inl rfl) rfl rfl) (ad_cons ed_int ad_nil rfl) rfl) (.cons (.loc rfl) (.cons (.d _) .nil)) (Lend.one rfl trivial) ⟨_, _, _, rfl, rfl, rfl, _, rfl, h11⟩ rfl rfl rfl rfl rfl) h12 (fun _ _ => rfl)) ad_nil rfl) rfl) (.cons (.loc rfl) (.cons (.d _) .nil)) (Lend.one rfl trivial) ⟨_, _, _, rfl, rfl, rfl, _, rfl, h13⟩ rfl rfl rfl rfl rfl) h14) ?_ nd rfl (.inl rfl) rfl (.inl rfl)
      refine sds_eq (ρ1 := ⟨1, [some (.loc 0), some (.d a1), some (.loc 1), some (.d t24), some (.d d10)], [some (.lst o23), some (.lst t17)]⟩) ?_ rfl
      cases h
      exact sds_nil ⟨rfl, (wkK (wkK (wkK (wkK (wkF wk0))))), _, rfl⟩
    · try dsimp only at h
      refine sds_eq (ρ1 := ⟨1, [some (.loc 0), some (.d a1), some (.loc 1), some (.d s25), none], [some (.lst l26), some (.lst l27)]⟩) ?_ rfl
      cases h
      exact sds_ret (ED.fzL (ed_v rfl (.inl rfl) rfl rfl) rfl (Nat.le_of_ble_eq_true rfl) rfl) ⟨rfl, rfl⟩
end
theorem CG_law_stones {P : Program} {w : World} {K : PySem.W.Frag} {mg : Str → Option Value} {base : Heap} {A : Around} {k : Nat} (T : Tx K mg) (hr : Room k A) (h : 2 ≤ k) : CGs P w K mg base A "_law_stones" (R_law_stones (He.ga K)) := ⟨_, _, ok_law_stones T, hr.mono h, T.g_law_stones, kp_of T.d_law_stones⟩

/-! _law_made -/
noncomputable def m_law_made (a0 : D) : Option (D) :=
  (m_Row_init (.tup [])).bind fun t1 => (dSeq a0).bind fun t2 => (forS (fun d4 => fun (s3 : D) => (m_Row_init (.tup [d4])).bind fun t5 => (m_Row_add s3 t5).bind fun t6 => some t6) t2 t1).bind (fun (s7 : D) => some s7)
def R_law_made (G : Str → Addr) : FSpec := fun xs os r os' => ∃ (a0 : D) , xs = [.d a0] ∧ os = [] ∧ os' = [] ∧ ∃ t, r = (rowV (G "Row") t) ∧ m_law_made a0 = some t
section
variable {P : Program} {w : World} {K : PySem.W.Frag} {mg : Str → Option Value} {base : Heap}
set_option maxHeartbeats 4000000 in
theorem ok_law_made (T : Tx K mg) : FnR P w K mg base CX0 8 (He.ga K "_law_made") (spF K (R_law_made (He.ga K))) := by
  obtain ⟨fd, F⟩ := T.d_law_made
  have nd := sc_law_made.nd
  have hb : Binds K fd ["_law_stones_here"] [] := F.bindsN fun _ _ _ _ _ _ us hl => match us, hl with | [_], _ => rfl
  refine fn_D F sc_law_made hb ?_ ?_
  · rintro xs os r os' ⟨a0, rfl, rfl, rfl, t, rfl, _⟩
    exact ⟨rfl, rfl, by simp⟩
  · rintro cdv A outer s_ H E hr xs os r os' ⟨a0, rfl, rfl, rfl, t, rfl, h⟩ _
    have mk_Row_init := MK_Row_init (P := P) (w := w) (base := base) T hr (by decide)
    have cs_Row_add := CS_Row_add (P := P) (w := w) (base := base) T hr (by decide)
    unfold m_law_made at h
    refine sds_eq (ρ1 := ⟨0, [some (.d a0), none, none], []⟩) ?_ rfl
    replace h := bnd h
    obtain ⟨t1, h1, h⟩ := h
    refine sds_set 1 (ed_makeR0 mk_Row_init h1 rfl rfl) ?_ nd rfl (.inl rfl) rfl (.inl rfl)
    refine sds_eq (ρ1 := ⟨0, [some (.d a0), some (.d (rowV (He.ga K "Row") t1)), none], []⟩) ?_ rfl
    replace h := bnd h
    obtain ⟨t2, h2, h⟩ := h
    replace h := bnd h
    obtain ⟨s7, h5, h⟩ := h
    refine sds_forC (vs := [2]) (fun (s3 : D) => (⟨0, [some (.d a0), some (.d (rowV (He.ga K "Row") s3)), none], []⟩ : DL.Env)) (fun _ => rfl) _ (it_seqM (ed_v rfl (.inl rfl) rfl rfl) h2) h5 ⟨rfl, (wkK (wkK (wkF wk0))), _, rfl⟩ ?_ ?_ PassesOwn.never rfl (fun _ => rfl)
    · rintro d4 s3 s_ h
      try dsimp only at h
      refine ⟨_, (tg_name 2 nd rfl (.inl rfl) (.inl rfl)), ?_⟩
      refine sds_eq (ρ1 := ⟨0, [some (.d a0), some (.d (rowV (He.ga K "Row") s3)), some (.d d4)], []⟩) ?_ rfl
      replace h := bnd h
      obtain ⟨t5, h3, h⟩ := h
      replace h := bnd h
      obtain ⟨t6, h4, h⟩ := h
      refine sds_set 1 (ed_binO cs_Row_add (ed_v rfl (.inl rfl) rfl rfl) (ed_makeR mk_Row_init (ad_cons (ed_v rfl (.inl rfl) rfl rfl) ad_nil rfl) allD1 (by rw [sizeLine_eq]; exact Nat.le_of_ble_eq_true rfl) h3 rfl rfl rfl rfl) ⟨_, _, rfl, rfl, rfl, _, rfl, h4⟩) ?_ nd rfl (.inl rfl) rfl (.inl rfl)
      refine sds_eq (ρ1 := ⟨0, [some (.d a0), some (.d (rowV (He.ga K "Row") t6)), some (.d d4)], []⟩) ?_ rfl
      cases h
      exact sds_nil ⟨rfl, (wkK (wkK (wkF wk0))), _, rfl⟩
    · try dsimp only at h
      refine sds_eq (ρ1 := ⟨0, [some (.d a0), some (.d (rowV (He.ga K "Row") s7)), none], []⟩) ?_ rfl
      cases h
      exact sds_ret (ed_v rfl (.inl rfl) rfl rfl) ⟨rfl, rfl⟩
end
theorem CG_law_made {P : Program} {w : World} {K : PySem.W.Frag} {mg : Str → Option Value} {base : Heap} {A : Around} {k : Nat} (T : Tx K mg) (hr : Room k A) (h : 8 ≤ k) : CGs P w K mg base A "_law_made" (R_law_made (He.ga K)) := ⟨_, _, ok_law_made T, hr.mono h, T.g_law_made, kp_of T.d_law_made⟩

/-! _law_figures -/
noncomputable def m_law_figures (a0 : D) : Option (D) :=
  (dLenX a0).bind fun t1 => (dLe (.int 1) t1).bind fun t2 => (dLe t1 (.int 10)).bind fun t3 => (cond (!(t2 && t3)) (some true) ((dSeqX a0).bind fun t4 => (lcG (fun d5 => (dLeS (.str "0") d5).bind fun t6 => (dLeS d5 (.str "9")).bind fun t7 => cond (!(t6 && t7)) (some (some d5)) (some none)) t4).bind fun t8 => (dNe (.lst t8) (.lst [])).bind fun t9 => some t9)).bind fun t10 => cond t10 (some (.bl false)) ((dEq a0 (.str "0")).bind fun t11 => (cond t11 (some true) ((dIxX a0 (.int 0)).bind fun t12 => (dNe t12 (.str "0")).bind fun t13 => some t13)).bind fun t14 => some (.bl t14))
def R_law_figures (G : Str → Addr) : FSpec := fun xs os r os' => ∃ (a0 : D) , xs = [.d a0] ∧ os = [] ∧ os' = [] ∧ ∃ t, r = t ∧ m_law_figures a0 = some t
section
variable {P : Program} {w : World} {K : PySem.W.Frag} {mg : Str → Option Value} {base : Heap}
set_option maxHeartbeats 4000000 in
theorem ok_law_figures (T : Tx K mg) : FnR P w K mg base CX0 1 (He.ga K "_law_figures") (spF K (R_law_figures (He.ga K))) := by
  obtain ⟨fd, F⟩ := T.d_law_figures
  have nd := sc_law_figures.nd
  have hb : Binds K fd ["_law_word"] [] := F.bindsN fun _ _ _ _ _ _ us hl => match us, hl with | [_], _ => rfl
  refine fn_D F sc_law_figures hb ?_ ?_
  · rintro xs os r os' ⟨a0, rfl, rfl, rfl, t, rfl, _⟩
    exact ⟨rfl, rfl, by simp⟩
  · rintro cdv A outer s_ H E hr xs os r os' ⟨a0, rfl, rfl, rfl, t, rfl, h⟩ _
    have f_len := T.f_len
    have hu := room_u hr
    unfold m_law_figures at h
    refine sds_eq (ρ1 := ⟨0, [some (.d a0), none], []⟩) ?_ rfl
    replace h := bnd h
    obtain ⟨t1, h1, h⟩ := h
    replace h := bnd h
    obtain ⟨t2, h2, h⟩ := h
    replace h := bnd h
    obtain ⟨t3, h3, h⟩ := h
    replace h := bnd h
    obtain ⟨t10, h9, h⟩ := h
    refine sds_ifM (TW.td (tw_orM (td_not (td_leleM ed_int (ed_blt (cb_lenX h1) (ad_cons (ed_v rfl (.inl rfl) rfl rfl) ad_nil rfl) f_len boot_len rfl (by decide) rfl rfl rfl) ed_int h2 h3 rfl)) h9 (fun h => by replace h := bnd h; obtain ⟨t4, h4, h⟩ := h; replace h := bnd h; obtain ⟨t8, h7, h⟩ := h; replace h := bnd h; obtain ⟨t9, h8, h⟩ := h; exact TW.sm h (tw_or1 (td_neM hu (ed_lcC (own := [("_law_c", 1)]) (it_seqX (ed_v rfl (.inl rfl) rfl rfl) h4) h7 (fun d5 o h => by replace h := bnd h; obtain ⟨t6, h5, h⟩ := h; replace h := bnd h; obtain ⟨t7, h6, h⟩ := h; exact lcPif (tg_blk 1 nd rfl rfl) (fun _ _ _ _ _ => (td_not (td_leleS ed_str (ed_v rfl (by walk_at "vis") rfl rfl) ed_str h5 h6 rfl))) h (fun h => by exact ⟨_, h, fun _ _ _ _ _ => (ed_v rfl (by walk_at "vis") rfl rfl)⟩)) (by decide) (blkOk_by rfl) nd rfl (fun _ => rfl)) (ed_lst ad_nil AllD.nil (by rw [sizeLine_eq]; exact Nat.le_of_ble_eq_true rfl)) h8 rfl))))) h (fun h => ?_) (fun h => ?_)
    · cases h
      exact sds_ret ed_bl ⟨rfl, rfl⟩
    · refine sds_nil ?_
      replace h := bnd h
      obtain ⟨t11, h10, h⟩ := h
      replace h := bnd h
      obtain ⟨t14, h13, h⟩ := h
      cases h
      exact sds_ret (ed_orM (ed_eqM hu (ed_v rfl (.inl rfl) rfl rfl) ed_str h10 rfl) h13 (fun h => by replace h := bnd h; obtain ⟨t12, h11, h⟩ := h; replace h := bnd h; obtain ⟨t13, h12, h⟩ := h; exact ED.smB h (ed_one (ed_neM hu (ed_ixX (ed_v rfl (.inl rfl) rfl rfl) ed_int h11 (fun _ _ => rfl)) ed_str h12 rfl)))) ⟨rfl, rfl⟩
end
theorem CG_law_figures {P : Program} {w : World} {K : PySem.W.Frag} {mg : Str → Option Value} {base : Heap} {A : Around} {k : Nat} (T : Tx K mg) (hr : Room k A) (h : 1 ≤ k) : CGs P w K mg base A "_law_figures" (R_law_figures (He.ga K)) := ⟨_, _, ok_law_figures T, hr.mono h, T.g_law_figures, kp_of T.d_law_figures⟩

/-! _law_parsed -/
noncomputable def m_law_parsed (a0 : D) : Option (D) :=
  (dLenX a0).bind fun t1 => (dRange1 t1).bind fun t2 => (forF (τ := D) (fun d3 => fun (_ : PUnit) => (dRange1 (.int 3)).bind fun t4 => (forF (τ := D) (fun d5 => fun (_ : PUnit) => (dIxX a0 d3).bind fun t6 => (dAddS t6 (.lst [(.str ""), (.str ""), (.str "")])).bind fun t7 => (dIxX t7 d5).bind fun t8 => (dEq d5 (.int 0)).bind fun t9 => (cond t9 ((dEq t8 (.str "stone")).bind fun t10 => some (.bl t10)) ((m_law_figures t8).bind fun t11 => some t11)).bind fun t12 => (dIxX a0 d3).bind fun t13 => (dLenX t13).bind fun t14 => (dGe d5 t14).bind fun t15 => (cond t15 (some true) ((dB t12).bind fun t16 => some (!t16))).bind fun t17 => cond t17 (some (.rt (.tup [(.str "error"), (.str "NotationError"), (.lst [d3, d5])]))) (some (.nx PUnit.unit))) t4 PUnit.unit).bind fun z => (match z with | .nx _ => (dIxX a0 d3).bind fun t18 => (dLenX t18).bind fun t19 => (dGt t19 (.int 3)).bind fun t20 => cond t20 (some (.rt (.tup [(.str "error"), (.str "NotationError"), (.lst [d3, (.int 3)])]))) (some (.nx PUnit.unit)) | .rt t => some (.rt t) | .bk _ => none)) t2 PUnit.unit).bind fun z => (match z with | .nx _ => (dLenX a0).bind fun t22 => (dRange1 t22).bind fun t23 => (forF (τ := D) (fun d26 => fun (z : D × D) => (match z with | (s24, s25) => (dIxX a0 d26).bind fun t27 => (dIxX t27 (.int 1)).bind fun t28 => (dIntX t28).bind fun t29 => (dIxX a0 d26).bind fun t30 => (dIxX t30 (.int 2)).bind fun t31 => (dIntX t31).bind fun t32 => (dEq d26 (.int 40)).bind fun t33 => (cond t33 (some true) ((dPow (.int 10) (.int 9)).bind fun t34 => (dLe s24 t29).bind fun t35 => (dLe t29 t34).bind fun t36 => (cond (!(t35 && t36)) (some true) ((dPow (.int 10) (.int 9)).bind fun t37 => (dLe (.int 1) t32).bind fun t38 => (dLe t32 t37).bind fun t39 => some (!(t38 && t39)))).bind fun t40 => some t40)).bind fun t41 => cond t41 (some (.rt (.tup [(.str "error"), (.str "InvalidRow"), (.lst [d26])]))) ((dAddS t29 (.int 1)).bind fun t42 => (dAddS s25 (.lst [(.tup [t29, t32])])).bind fun t43 => some (.nx (t42, t43))))) t23 ((.int 0), (.lst []))).bind fun z => (match z with | .nx (s44, s45) => (dTuple s45).bind fun t46 => some t46 | .rt t => some t | .bk _ => none) | .rt t => some t | .bk _ => none)
def R_law_parsed (G : Str → Addr) : FSpec := fun xs os r os' => ∃ (a0 : D) , xs = [.d a0] ∧ os = [] ∧ os' = [] ∧ ∃ t, r = t ∧ m_law_parsed a0 = some t
section
variable {P : Program} {w : World} {K : PySem.W.Frag} {mg : Str → Option Value} {base : Heap}
set_option maxHeartbeats 4000000 in
theorem ok_law_parsed (T : Tx K mg) : FnR P w K mg base CX0 2 (He.ga K "_law_parsed") (spF K (R_law_parsed (He.ga K))) := by
  obtain ⟨fd, F⟩ := T.d_law_parsed
  have nd := sc_law_parsed.nd
  have hb : Binds K fd ["_law_lines"] [] := F.bindsN fun _ _ _ _ _ _ us hl => match us, hl with | [_], _ => rfl
  refine fn_D F sc_law_parsed hb ?_ ?_
  · rintro xs os r os' ⟨a0, rfl, rfl, rfl, t, rfl, _⟩
    exact ⟨rfl, rfl, by simp⟩
  · rintro cdv A outer s_ H E hr xs os r os' ⟨a0, rfl, rfl, rfl, t, rfl, h⟩ _
    have f_range := T.f_range
    have f_len := T.f_len
    have hu := room_u hr
    have cg_law_figures := CG_law_figures (P := P) (w := w) (base := base) T hr (by decide)
    have f_int := T.f_int
    have f_tuple := T.f_tuple
    unfold m_law_parsed at h
    refine sds_eq (ρ1 := ⟨0, [some (.d a0), none, none, none, none, none, none, none, none], []⟩) ?_ rfl
    replace h := bnd h
    obtain ⟨t1, h1, h⟩ := h
    replace h := bnd h
    obtain ⟨t2, h2, h⟩ := h
    replace h := bnd h
    obtain ⟨fl48, h20, h⟩ := h
    refine sds_forCF (vs := [1]) (fun (_ : PUnit) => (⟨0, [some (.d a0), none, none, none, none, none, none, none, none], []⟩ : DL.Env)) (fun _ => rfl) (fun (t : D) d ow => d = t ∧ ow.take 0 = []) _ (it_range1M (ed_blt (cb_lenX h1) (ad_cons (ed_v rfl (.inl rfl) rfl rfl) ad_nil rfl) f_len boot_len rfl (by decide) rfl rfl rfl) h2 rfl f_range rfl) h20 ⟨rfl, (wkK (wkF (wkF (wkF (wkF (wkF (wkF (wkF (wkF wk0))))))))), _, rfl⟩ ?_ ?_ ?_ PassesOwn.never rfl (fun _ => rfl)
    · rintro d3 _ fl_ h
      try dsimp only at h
      refine ⟨_, (tg_name 1 nd rfl (.inl rfl) (.inl rfl)), ?_⟩
      refine sds_eq (ρ1 := ⟨0, [some (.d a0), some (.d d3), none, none, none, none, none, none, none], []⟩) ?_ rfl
      replace h := bnd h
      obtain ⟨t4, h3, h⟩ := h
      replace h := bnd h
      obtain ⟨fl21, h16, h⟩ := h
      refine sds_forCF (vs := [2]) (fun (_ : PUnit) => (⟨0, [some (.d a0), some (.d d3), none, none, none, none, none, none, none], []⟩ : DL.Env)) (fun _ => rfl) (fun (t : D) d ow => d = t ∧ ow.take 0 = []) _ (it_range1M ed_int h3 rfl f_range rfl) h16 ⟨rfl, (wkK (wkK (wkF (wkF (wkF (wkF (wkF (wkF (wkF wk0))))))))), _, rfl⟩ ?_ ?_ ?_ PassesOwn.never rfl (fun _ => rfl)
      · rintro d5 _ fl_ h
        try dsimp only at h
        refine ⟨_, (tg_name 2 nd rfl (.inl rfl) (.inl rfl)), ?_⟩
        refine sds_eq (ρ1 := ⟨0, [some (.d a0), some (.d d3), some (.d d5), none, none, none, none, none, none], []⟩) ?_ rfl
        replace h := bnd h
        obtain ⟨t6, h4, h⟩ := h
        replace h := bnd h
        obtain ⟨t7, h5, h⟩ := h
        replace h := bnd h
        obtain ⟨t8, h6, h⟩ := h
        refine sds_set 3 (ed_ixX (ed_addS (ed_ixX (ed_v rfl (.inl rfl) rfl rfl) (ed_v rfl (.inl rfl) rfl rfl) h4 (fun _ _ => rfl)) (ed_lst (ad_cons ed_str (ad_cons ed_str (ad_cons ed_str ad_nil rfl) rfl) rfl) allD3 (by rw [sizeLine_eq]; exact Nat.le_of_ble_eq_true rfl)) h5) (ed_v rfl (.inl rfl) rfl rfl) h6 (fun _ _ => rfl)) ?_ nd rfl (.inl rfl) rfl (.inl rfl)
        refine sds_eq (ρ1 := ⟨0, [some (.d a0), some (.d d3), some (.d d5), some (.d t8), none, none, none, none, none], []⟩) ?_ rfl
        replace h := bnd h
        obtain ⟨t9, h7, h⟩ := h
        replace h := bnd h
        obtain ⟨t12, h10, h⟩ := h
        refine sds_set 4 (ed_ifM (td_eqM hu (ed_v rfl (.inl rfl) rfl rfl) ed_int h7 rfl) h10 (fun h => by replace h := bnd h; obtain ⟨t10, h8, h⟩ := h; exact ED.sm (A := none) h (ed_eqM hu (ed_v rfl (.inl rfl) rfl rfl) ed_str h8 rfl)) (fun h => by replace h := bnd h; obtain ⟨t11, h9, h⟩ := h; exact ED.sm (A := none) h (ed_call cg_law_figures (ad_cons (ed_v rfl (.inl rfl) rfl rfl) ad_nil rfl) allD1 ⟨_, rfl, rfl, rfl, _, rfl, h9⟩ rfl rfl rfl rfl))) ?_ nd rfl (.inl rfl) rfl (.inl rfl)
        refine sds_eq (ρ1 := ⟨0, [some (.d a0), some (.d d3), some (.d d5), some (.d t8), some (.d t12), none, none, none, none], []⟩) ?_ rfl
        replace h := bnd h
        obtain ⟨t13, h11, h⟩ := h
        replace h := bnd h
        obtain ⟨t14, h12, h⟩ := h
        replace h := bnd h
        obtain ⟨t15, h13, h⟩ := h
        replace h := bnd h
        obtain ⟨t17, h15, h⟩ := h
        refine sds_ifM (TW.td (tw_orM (td_geM (ed_v rfl (.inl rfl) rfl rfl) (ed_blt (cb_lenX h12) (ad_cons (ed_ixX (ed_v rfl (.inl rfl) rfl rfl) (ed_v rfl (.inl rfl) rfl rfl) h11 (fun _ _ => rfl)) ad_nil rfl) f_len boot_len rfl (by decide) rfl rfl rfl) h13) h15 (fun h => by replace h := bnd h; obtain ⟨t16, h14, h⟩ := h; exact TW.sm h (tw_or1 (td_not (td_valM (ed_v rfl (.inl rfl) rfl rfl) h14 (fun _ => rfl))))))) h (fun h => ?_) (fun h => ?_)
        · cases h
          exact sds_ret (ed_tup (ad_cons ed_str (ad_cons ed_str (ad_cons (ed_lst (ad_cons (ed_v rfl (.inl rfl) rfl rfl) (ad_cons (ed_v rfl (.inl rfl) rfl rfl) ad_nil rfl) rfl) allD2 (by rw [sizeLine_eq]; exact Nat.le_of_ble_eq_true rfl)) ad_nil rfl) rfl) rfl) allD3 (by rw [sizeLine_eq]; exact Nat.le_of_ble_eq_true rfl)) ⟨_, rfl, ⟨rfl, rfl⟩⟩
        · refine sds_nil ?_
          cases h
          exact sds_nil ⟨_, rfl, ⟨rfl, (wkK (wkK (wkF (wkF (wkF (wkF (wkF (wkF (wkF wk0))))))))), _, rfl⟩⟩
      · rintro _ rfl
        try dsimp only at h
        refine sds_eq (ρ1 := ⟨0, [some (.d a0), some (.d d3), none, none, none, none, none, none, none], []⟩) ?_ rfl
        replace h := bnd h
        obtain ⟨t18, h17, h⟩ := h
        replace h := bnd h
        obtain ⟨t19, h18, h⟩ := h
        replace h := bnd h
        obtain ⟨t20, h19, h⟩ := h
        refine sds_ifM (td_gtM (ed_blt (cb_lenX h18) (ad_cons (ed_ixX (ed_v rfl (.inl rfl) rfl rfl) (ed_v rfl (.inl rfl) rfl rfl) h17 (fun _ _ => rfl)) ad_nil rfl) f_len boot_len rfl (by decide) rfl rfl rfl) ed_int h19) h (fun h => ?_) (fun h => ?_)
        · cases h
          exact sds_ret (ed_tup (ad_cons ed_str (ad_cons ed_str (ad_cons (ed_lst (ad_cons (ed_v rfl (.inl rfl) rfl rfl) (ad_cons ed_int ad_nil rfl) rfl) allD2 (by rw [sizeLine_eq]; exact Nat.le_of_ble_eq_true rfl)) ad_nil rfl) rfl) rfl) allD3 (by rw [sizeLine_eq]; exact Nat.le_of_ble_eq_true rfl)) ⟨_, rfl, ⟨rfl, rfl⟩⟩
        · refine sds_nil ?_
          cases h
          exact sds_nil ⟨_, rfl, ⟨rfl, (wkK (wkF (wkF (wkF (wkF (wkF (wkF (wkF (wkF wk0))))))))), _, rfl⟩⟩
      · rintro t d_ ow_ rfl hrt
        try dsimp only at h
        cases h
        exact ⟨_, rfl, hrt⟩
    · rintro _ rfl
      try dsimp only at h
      refine sds_eq (ρ1 := ⟨0, [some (.d a0), none, none, none, none, none, none, none, none], []⟩) ?_ rfl
      refine sds_par 5 6 (ad_cons ed_int (ad_cons (ed_lst ad_nil AllD.nil (by rw [sizeLine_eq]; exact Nat.le_of_ble_eq_true rfl)) ad_nil rfl) rfl) ?_ rfl nd rfl rfl (by decide) rfl rfl rfl rfl
      refine sds_eq (ρ1 := ⟨0, [some (.d a0), none, none, none, none, some (.d (.int 0)), some (.d (.lst [])), none, none], []⟩) ?_ rfl
      replace h := bnd h
      obtain ⟨t22, h21, h⟩ := h
      replace h := bnd h
      obtain ⟨t23, h22, h⟩ := h
      replace h := bnd h
      obtain ⟨fl47, h40, h⟩ := h
      refine sds_forCF (vs := [1]) (fun (z : D × D) => (match z with | (s24, s25) => (⟨0, [some (.d a0), none, none, none, none, some (.d s24), some (.d s25), none, none], []⟩ : DL.Env))) (fun _ => rfl) (fun (t : D) d ow => d = t ∧ ow.take 0 = []) _ (it_range1M (ed_blt (cb_lenX h21) (ad_cons (ed_v rfl (.inl rfl) rfl rfl) ad_nil rfl) f_len boot_len rfl (by decide) rfl rfl rfl) h22 rfl f_range rfl) h40 ⟨rfl, (wkK (wkF (wkF (wkF (wkF (wkK (wkK (wkF (wkF wk0))))))))), _, rfl⟩ ?_ ?_ ?_ PassesOwn.never rfl (fun _ => rfl)
      · rintro d26 ⟨s24, s25⟩ fl_ h
        try dsimp only at h
        refine ⟨_, (tg_name 1 nd rfl (.inl rfl) (.inl rfl)), ?_⟩
        refine sds_eq (ρ1 := ⟨0, [some (.d a0), some (.d d26), none, none, none, some (.d s24), some (.d s25), none, none], []⟩) ?_ rfl
        replace h := bnd h
        obtain ⟨t27, h23, h⟩ := h
        replace h := bnd h
        obtain ⟨t28, h24, h⟩ := h
        replace h := bnd h
        obtain ⟨t29, h25, h⟩ := h
        replace h := bnd h
        obtain ⟨t30, h26, h⟩ := h
        replace h := bnd h
        obtain ⟨t31, h27, h⟩ := h
        replace h := bnd h
        obtain ⟨t32, h28, h⟩ := h
        refine sds_par 7 8 (ad_cons (ed_bty' (cb_intX h25) (ad_cons (ed_ixX (ed_ixX (ed_v rfl (.inl rfl) rfl rfl) (ed_v rfl (.inl rfl) rfl rfl) h23 (fun _ _ => rfl)) ed_int h24 (fun _ _ => rfl)) ad_nil rfl) f_int boot_int rfl (by decide) rfl rfl rfl) (ad_cons (ed_bty' (cb_intX h28) (ad_cons (ed_ixX (ed_ixX (ed_v rfl (.inl rfl) rfl rfl) (ed_v rfl (.inl rfl) rfl rfl) h26 (fun _ _ => rfl)) ed_int h27 (fun _ _ => rfl)) ad_nil rfl) f_int boot_int rfl (by decide) rfl rfl rfl) ad_nil rfl) rfl) ?_ rfl nd rfl rfl (by decide) rfl rfl rfl rfl
        refine sds_eq (ρ1 := ⟨0, [some (.d a0), some (.d d26), none, none, none, some (.d s24), some (.d s25), some (.d t29), some (.d t32)], []⟩) ?_ rfl
        replace h := bnd h
        obtain ⟨t33, h29, h⟩ := h
        replace h := bnd h
        obtain ⟨t41, h37, h⟩ := h
        refine sds_ifM (TW.td (tw_orM (td_eqM hu (ed_v rfl (.inl rfl) rfl rfl) ed_int h29 rfl) h37 (fun h => by replace h := bnd h; obtain ⟨t34, h30, h⟩ := h; replace h := bnd h; obtain ⟨t35, h31, h⟩ := h; replace h := bnd h; obtain ⟨t36, h32, h⟩ := h; replace h := bnd h; obtain ⟨t40, h36, h⟩ := h; exact TW.sm h (tw_orM (td_not (td_leleM (ed_v rfl (.inl rfl) rfl rfl) (ed_v rfl (.inl rfl) rfl rfl) (ed_powM ed_int ed_int h30) h31 h32 rfl)) h36 (fun h => by replace h := bnd h; obtain ⟨t37, h33, h⟩ := h; replace h := bnd h; obtain ⟨t38, h34, h⟩ := h; replace h := bnd h; obtain ⟨t39, h35, h⟩ := h; exact TW.sm h (tw_or1 (td_not (td_leleM ed_int (ed_v rfl (.inl rfl) rfl rfl) (ed_powM ed_int ed_int h33) h34 h35 rfl)))))))) h (fun h => ?_) (fun h => ?_)
        · cases h
          exact sds_ret (ed_tup (ad_cons ed_str (ad_cons ed_str (ad_cons (ed_lst (ad_cons (ed_v rfl (.inl rfl) rfl rfl) ad_nil rfl) allD1 (by rw [sizeLine_eq]; exact Nat.le_of_ble_eq_true rfl)) ad_nil rfl) rfl) rfl) allD3 (by rw [sizeLine_eq]; exact Nat.le_of_ble_eq_true rfl)) ⟨_, rfl, ⟨rfl, rfl⟩⟩
        · refine sds_nil ?_
          replace h := bnd h
          obtain ⟨t42, h38, h⟩ := h
          replace h := bnd h
          obtain ⟨t43, h39, h⟩ := h
          refine sds_par 5 6 (ad_cons (ed_addS (ed_v rfl (.inl rfl) rfl rfl) ed_int h38) (ad_cons (ed_addS (ed_v rfl (.inl rfl) rfl rfl) (ed_lst (ad_cons (ed_tup (ad_cons (ed_v rfl (.inl rfl) rfl rfl) (ad_cons (ed_v rfl (.inl rfl) rfl rfl) ad_nil rfl) rfl) allD2 (by rw [sizeLine_eq]; exact Nat.le_of_ble_eq_true rfl)) ad_nil rfl) allD1 (by rw [sizeLine_eq]; exact Nat.le_of_ble_eq_true rfl)) h39) ad_nil rfl) rfl) ?_ rfl nd rfl rfl (by decide) rfl rfl rfl rfl
          refine sds_eq (ρ1 := ⟨0, [some (.d a0), some (.d d26), none, none, none, some (.d t42), some (.d t43), some (.d t29), some (.d t32)], []⟩) ?_ rfl
          cases h
          exact sds_nil ⟨_, rfl, ⟨rfl, (wkK (wkF (wkF (wkF (wkF (wkK (wkK (wkF (wkF wk0))))))))), _, rfl⟩⟩
      · rintro ⟨s44, s45⟩ rfl
        try dsimp only at h
        refine sds_eq (ρ1 := ⟨0, [some (.d a0), none, none, none, none, some (.d s44), some (.d s45), none, none], []⟩) ?_ rfl
        replace h := bnd h
        obtain ⟨t46, h41, h⟩ := h
        cases h
        exact sds_ret (ed_bty' (cb_tupM h41) (ad_cons (ed_v rfl (.inl rfl) rfl rfl) ad_nil rfl) f_tuple boot_tuple rfl (by decide) rfl rfl rfl) ⟨rfl, rfl⟩
      · rintro t d_ ow_ rfl hrt
        try dsimp only at h
        cases h
        exact ⟨hrt.1, hrt.2⟩
    · rintro t d_ ow_ rfl hrt
      try dsimp only at h
      cases h
      exact ⟨hrt.1, hrt.2⟩
end
theorem CG_law_parsed {P : Program} {w : World} {K : PySem.W.Frag} {mg : Str → Option Value} {base : Heap} {A : Around} {k : Nat} (T : Tx K mg) (hr : Room k A) (h : 2 ≤ k) : CGs P w K mg base A "_law_parsed" (R_law_parsed (He.ga K)) := ⟨_, _, ok_law_parsed T, hr.mono h, T.g_law_parsed, kp_of T.d_law_parsed⟩

/-! su._law_told -/
noncomputable def m_su_law_told (xn : XN) : Option D :=
  (inL xcL xn.nm).bind fun _ => (isL kiL xn.nm "InvalidOperation").bind fun t1 => (isL kiL xn.nm "DecodeError").bind fun t2 => (isL kiL xn.nm "NotationError").bind fun t3 => (isL kiL xn.nm "NotStanding").bind fun t4 => (isL kiL xn.nm "NotLying").bind fun t5 => (isL kiL xn.nm "InvalidRow").bind fun t6 => (dAddX (.lst [(.bl t1), (.bl t2), (.bl t3)]) (.lst [(.bl t4), (.bl t5), (.bl t6)])).bind fun t7 => (isL kiL xn.nm "UnknownStone").bind fun t8 => (isL kiL xn.nm "InvalidSide").bind fun t9 => (isL kiL xn.nm "InvalidNumber").bind fun t10 => (dAddX t7 (.lst [(.bl t8), (.bl t9), (.bl t10)])).bind fun t11 => (isL kiL xn.nm "Contradiction").bind fun t12 => (isL kiL xn.nm "InvalidCount").bind fun t13 => (dAddX t11 (.lst [(.bl t12), (.bl t13)])).bind fun t14 => (dAddX (.lst [(.str "InvalidOperation"), (.str "DecodeError"), (.str "NotationError"), (.str "NotStanding"), (.str "NotLying"), (.str "InvalidRow")]) (.lst [(.str "UnknownStone"), (.str "InvalidSide"), (.str "InvalidNumber"), (.str "Contradiction"), (.str "InvalidCount"), (.str "other")])).bind fun t15 => (dCountD t14 (.bl true)).bind fun t16 => (dEq t16 (.int 1)).bind fun t17 => (cond t17 ((dB (.bl true)).bind fun t18 => some t18) (some false)).bind fun t19 => (cond t19 ((dIndexD t14 (.bl true)).bind fun t20 => some t20) (some (.int 11))).bind fun t21 => (dEq t21 (.int 2)).bind fun t22 => cond t22 ((dIx t15 t21).bind fun t23 => (xFld xn "line").bind fun t24 => (xFld xn "word").bind fun t25 => some (.tup [(.str "error"), t23, (.lst [t24, t25])])) ((dIn t21 (.tup [(.int 3), (.int 4)])).bind fun t26 => cond t26 ((dIx t15 t21).bind fun t27 => (xFld xn "stone").bind fun t28 => some (.tup [(.str "error"), t27, (.lst [t28])])) ((dLt t21 (.int 6)).bind fun t29 => (cond t29 ((dIx t15 t21).bind fun t30 => (dEq t21 (.int 1)).bind fun t31 => (cond t31 ((xFld xn "offset").bind fun t32 => some (.lst [t32])) ((xFld xn "index").bind fun t33 => some (.lst [t33]))).bind fun t34 => some (.tup [(.str "error"), t30, t34])) ((dIx t15 t21).bind fun t35 => some (.tup [(.str "error"), t35]))).bind fun t36 => some t36))
theorem su_in_law_told {xn : XN} {r : D} (h : m_su_law_told xn = some r) : xn.nm ∈ xcL := by
  unfold m_su_law_told at h
  obtain ⟨_, h, _⟩ := bnd h
  exact inL_ok h
section
variable {P : Program} {w : World} {K : PySem.W.Frag} {mg : Str → Option Value} {base : Heap}
theorem TD_law_told {X : Cx} (T : Tx X.K X.mg) (hg : X.env.kindOf "_law_told" = some .globalImplicit) : TellD X "_law_told" "_law_work" (He.ga X.K "_law_told") (defArgs s_law_told) (defBody s_law_told) (defScope s_law_told) n_law_told := ⟨hg, T.g_law_told, T.d_law_told, (fun _ _ _ _ _ _ us hl => match us, hl with | [_], _ => rfl), sc_law_told, rfl⟩
theorem TY_law_told {X : Cx} (T : Tx X.K X.mg) : TryD X "_law_work" "e" "StoneError" 1 (defScope s_law_told) n_law_told (.ref (He.ga X.K "StoneError")) := ⟨sc_law_told.nd, rfl, .inl rfl, rfl, rfl, rfl, T.g_StoneError, rfl, rfl, rfl⟩
set_option maxHeartbeats 4000000 in
theorem su_law_told {k : Nat} {A : Around} {outer : List PySem.Env} (T : Tx K mg) {xn : XN} {r : D} (h : m_su_law_told xn = some r) (cdv : Value) (s : Shared) (H : Hp) (ae : Addr) (oe : Obj) (d : Option Addr) (pn : List (Addr × Obj)) (hr : Room (k + 1) (A.deeper (envOfC "_law_told" (defScope s_law_told) s.heap.objs.size (He.ga K "_law_told") cdv))) (hz : Zc (.ref (xn.xv (He.ga K)).cls) d oe) (hv : ∃ vs, oe.data = .fields vs) :
    SDs ((cxOf CX0 P w K mg base n_law_told "_law_told" (defScope s_law_told) (He.ga K "_law_told") cdv A outer s H E0).nox.suite ae ((ae, oe) :: pn)) (env1 n_law_told 1 K (.ref (xn.xv (He.ga K)).cls) d (xn.xv (He.ga K)) ae) (tryS (defBody s_law_told)) (kn1 r) := by
  have nd := sc_law_told.nd
  have g_InvalidOperation := T.g_InvalidOperation
  have f_isinstance := T.f_isinstance
  have g_DecodeError := T.g_DecodeError
  have g_NotationError := T.g_NotationError
  have g_NotStanding := T.g_NotStanding
  have g_NotLying := T.g_NotLying
  have g_InvalidRow := T.g_InvalidRow
  have g_UnknownStone := T.g_UnknownStone
  have g_InvalidSide := T.g_InvalidSide
  have g_InvalidNumber := T.g_InvalidNumber
  have g_Contradiction := T.g_Contradiction
  have g_InvalidCount := T.g_InvalidCount
  have hu65 := room_u65 hr
  have hu := room_u hr
  have f_ValueError := T.f_ValueError
  unfold m_su_law_told at h
  obtain ⟨_, hk0, h⟩ := bnd h
  replace hk0 := inL_ok hk0
  refine sds_eq (ρ1 := ⟨0, [none, some (.d (.lam 0 (exP K (.ref (xn.xv (He.ga K)).cls) d (xn.xv (He.ga K)) ae))), none, none, none], []⟩) ?_ rfl
  replace h := bnd h
  obtain ⟨t1, h1, h⟩ := h
  replace h := bnd h
  obtain ⟨t2, h2, h⟩ := h
  replace h := bnd h
  obtain ⟨t3, h3, h⟩ := h
  refine sds_set 2 (ed_lst (ad_cons (ed_blt (cb_isX (x := xn.xv (He.ga K)) (isXB_ok (T.ixs _ hk0)) hz hv (T.kis _ (isL_ok h1))) (ad_cons (ed_v rfl (.inl rfl) rfl rfl) (ad_cons (ed_gref g_InvalidOperation rfl (by decide)) ad_nil rfl) rfl) f_isinstance boot_isinstance rfl (by decide) rfl rfl rfl) (ad_cons (ed_blt (cb_isX (x := xn.xv (He.ga K)) (isXB_ok (T.ixs _ hk0)) hz hv (T.kis _ (isL_ok h2))) (ad_cons (ed_v rfl (.inl rfl) rfl rfl) (ad_cons (ed_gref g_DecodeError rfl (by decide)) ad_nil rfl) rfl) f_isinstance boot_isinstance rfl (by decide) rfl rfl rfl) (ad_cons (ed_blt (cb_isX (x := xn.xv (He.ga K)) (isXB_ok (T.ixs _ hk0)) hz hv (T.kis _ (isL_ok h3))) (ad_cons (ed_v rfl (.inl rfl) rfl rfl) (ad_cons (ed_gref g_NotationError rfl (by decide)) ad_nil rfl) rfl) f_isinstance boot_isinstance rfl (by decide) rfl rfl rfl) ad_nil rfl) rfl) rfl) allD3 (by rw [sizeLine_eq]; exact Nat.le_of_ble_eq_true rfl)) ?_ nd rfl (.inl rfl) rfl (.inl rfl)
  refine sds_eq (ρ1 := ⟨0, [none, some (.d (.lam 0 (exP K (.ref (xn.xv (He.ga K)).cls) d (xn.xv (He.ga K)) ae))), some (.d (.lst [(.bl t1), (.bl t2), (.bl t3)])), none, none], []⟩) ?_ rfl
  replace h := bnd h
  obtain ⟨t4, h4, h⟩ := h
  replace h := bnd h
  obtain ⟨t5, h5, h⟩ := h
  replace h := bnd h
  obtain ⟨t6, h6, h⟩ := h
  replace h := bnd h
  obtain ⟨t7, h7, h⟩ := h
  refine sds_set 2 (ed_addX (ed_v rfl (.inl rfl) rfl rfl) (ed_lst (ad_cons (ed_blt (cb_isX (x := xn.xv (He.ga K)) (isXB_ok (T.ixs _ hk0)) hz hv (T.kis _ (isL_ok h4))) (ad_cons (ed_v rfl (.inl rfl) rfl rfl) (ad_cons (ed_gref g_NotStanding rfl (by decide)) ad_nil rfl) rfl) f_isinstance boot_isinstance rfl (by decide) rfl rfl rfl) (ad_cons (ed_blt (cb_isX (x := xn.xv (He.ga K)) (isXB_ok (T.ixs _ hk0)) hz hv (T.kis _ (isL_ok h5))) (ad_cons (ed_v rfl (.inl rfl) rfl rfl) (ad_cons (ed_gref g_NotLying rfl (by decide)) ad_nil rfl) rfl) f_isinstance boot_isinstance rfl (by decide) rfl rfl rfl) (ad_cons (ed_blt (cb_isX (x := xn.xv (He.ga K)) (isXB_ok (T.ixs _ hk0)) hz hv (T.kis _ (isL_ok h6))) (ad_cons (ed_v rfl (.inl rfl) rfl rfl) (ad_cons (ed_gref g_InvalidRow rfl (by decide)) ad_nil rfl) rfl) f_isinstance boot_isinstance rfl (by decide) rfl rfl rfl) ad_nil rfl) rfl) rfl) allD3 (by rw [sizeLine_eq]; exact Nat.le_of_ble_eq_true rfl)) h7) ?_ nd rfl (.inl rfl) rfl (.inl rfl)
  refine sds_eq (ρ1 := ⟨0, [none, some (.d (.lam 0 (exP K (.ref (xn.xv (He.ga K)).cls) d (xn.xv (He.ga K)) ae))), some (.d t7), none, none], []⟩) ?_ rfl
  replace h := bnd h
  obtain ⟨t8, h8, h⟩ := h
  replace h := bnd h
  obtain ⟨t9, h9, h⟩ := h
  replace h := bnd h
  obtain ⟨t10, h10, h⟩ := h
  replace h := bnd h
  obtain ⟨t11, h11, h⟩ := h
  refine sds_set 2 (ed_addX (ed_v rfl (.inl rfl) rfl rfl) (ed_lst (ad_cons (ed_blt (cb_isX (x := xn.xv (He.ga K)) (isXB_ok (T.ixs _ hk0)) hz hv (T.kis _ (isL_ok h8))) (ad_cons (ed_v rfl (.inl rfl) rfl rfl) (ad_cons (ed_gref g_UnknownStone rfl (by decide)) ad_nil rfl) rfl) f_isinstance boot_isinstance rfl (by decide) rfl rfl rfl) (ad_cons (ed_blt (cb_isX (x := xn.xv (He.ga K)) (isXB_ok (T.ixs _ hk0)) hz hv (T.kis _ (isL_ok h9))) (ad_cons (ed_v rfl (.inl rfl) rfl rfl) (ad_cons (ed_gref g_InvalidSide rfl (by decide)) ad_nil rfl) rfl) f_isinstance boot_isinstance rfl (by decide) rfl rfl rfl) (ad_cons (ed_blt (cb_isX (x := xn.xv (He.ga K)) (isXB_ok (T.ixs _ hk0)) hz hv (T.kis _ (isL_ok h10))) (ad_cons (ed_v rfl (.inl rfl) rfl rfl) (ad_cons (ed_gref g_InvalidNumber rfl (by decide)) ad_nil rfl) rfl) f_isinstance boot_isinstance rfl (by decide) rfl rfl rfl) ad_nil rfl) rfl) rfl) allD3 (by rw [sizeLine_eq]; exact Nat.le_of_ble_eq_true rfl)) h11) ?_ nd rfl (.inl rfl) rfl (.inl rfl)
  refine sds_eq (ρ1 := ⟨0, [none, some (.d (.lam 0 (exP K (.ref (xn.xv (He.ga K)).cls) d (xn.xv (He.ga K)) ae))), some (.d t11), none, none], []⟩) ?_ rfl
  replace h := bnd h
  obtain ⟨t12, h12, h⟩ := h
  replace h := bnd h
  obtain ⟨t13, h13, h⟩ := h
  replace h := bnd h
  obtain ⟨t14, h14, h⟩ := h
  refine sds_set 2 (ed_addX (ed_v rfl (.inl rfl) rfl rfl) (ed_lst (ad_cons (ed_blt (cb_isX (x := xn.xv (He.ga K)) (isXB_ok (T.ixs _ hk0)) hz hv (T.kis _ (isL_ok h12))) (ad_cons (ed_v rfl (.inl rfl) rfl rfl) (ad_cons (ed_gref g_Contradiction rfl (by decide)) ad_nil rfl) rfl) f_isinstance boot_isinstance rfl (by decide) rfl rfl rfl) (ad_cons (ed_blt (cb_isX (x := xn.xv (He.ga K)) (isXB_ok (T.ixs _ hk0)) hz hv (T.kis _ (isL_ok h13))) (ad_cons (ed_v rfl (.inl rfl) rfl rfl) (ad_cons (ed_gref g_InvalidCount rfl (by decide)) ad_nil rfl) rfl) f_isinstance boot_isinstance rfl (by decide) rfl rfl rfl) ad_nil rfl) rfl) allD2 (by rw [sizeLine_eq]; exact Nat.le_of_ble_eq_true rfl)) h14) ?_ nd rfl (.inl rfl) rfl (.inl rfl)
  refine sds_eq (ρ1 := ⟨0, [none, some (.d (.lam 0 (exP K (.ref (xn.xv (He.ga K)).cls) d (xn.xv (He.ga K)) ae))), some (.d t14), none, none], []⟩) ?_ rfl
  refine sds_set 3 (ed_lst (ad_cons ed_str (ad_cons ed_str (ad_cons ed_str (ad_cons ed_str (ad_cons ed_str (ad_cons ed_str ad_nil rfl) rfl) rfl) rfl) rfl) rfl) allD6 (by rw [sizeLine_eq]; exact Nat.le_of_ble_eq_true rfl)) ?_ nd rfl (.inl rfl) rfl (.inl rfl)
  refine sds_eq (ρ1 := ⟨0, [none, some (.d (.lam 0 (exP K (.ref (xn.xv (He.ga K)).cls) d (xn.xv (He.ga K)) ae))), some (.d t14), some (.d (.lst [(.str "InvalidOperation"), (.str "DecodeError"), (.str "NotationError"), (.str "NotStanding"), (.str "NotLying"), (.str "InvalidRow")])), none], []⟩) ?_ rfl
  replace h := bnd h
  obtain ⟨t15, h15, h⟩ := h
  refine sds_set 3 (ed_addX (ed_v rfl (.inl rfl) rfl rfl) (ed_lst (ad_cons ed_str (ad_cons ed_str (ad_cons ed_str (ad_cons ed_str (ad_cons ed_str (ad_cons ed_str ad_nil rfl) rfl) rfl) rfl) rfl) rfl) allD6 (by rw [sizeLine_eq]; exact Nat.le_of_ble_eq_true rfl)) h15) ?_ nd rfl (.inl rfl) rfl (.inl rfl)
  refine sds_eq (ρ1 := ⟨0, [none, some (.d (.lam 0 (exP K (.ref (xn.xv (He.ga K)).cls) d (xn.xv (He.ga K)) ae))), some (.d t14), some (.d t15), none], []⟩) ?_ rfl
  replace h := bnd h
  obtain ⟨t16, h16, h⟩ := h
  replace h := bnd h
  obtain ⟨t17, h17, h⟩ := h
  replace h := bnd h
  obtain ⟨t19, h19, h⟩ := h
  replace h := bnd h
  obtain ⟨t21, h21, h⟩ := h
  refine sds_set 4 (ed_ifM (TW.td (tw_andM (td_eqM hu (ed_countM hu65 (ed_v rfl (.inl rfl) rfl rfl) ed_bl h16 rfl rfl rfl rfl rfl) ed_int h17 rfl) h19 (fun h => by replace h := bnd h; obtain ⟨t18, h18, h⟩ := h; exact TW.sm h (tw_and1 (td_valM (ed_blt (cb_isXt (x := xn.xv (He.ga K)) (isXB_ok (T.ixs _ hk0)) hz hv (T.kvs _ hk0)) (ad_cons (ed_v rfl (.inl rfl) rfl rfl) (ad_cons (ed_bty f_ValueError rfl PyProof.Rows.Boot.«ValueError» (by decide) rfl) ad_nil rfl) rfl) f_isinstance boot_isinstance rfl (by decide) rfl rfl rfl) h18 (fun _ => rfl)))))) h21 (fun h => by replace h := bnd h; obtain ⟨t20, h20, h⟩ := h; exact ED.sm (A := none) h (ed_indexDM hu65 (ed_v rfl (.inl rfl) rfl rfl) ed_bl h20 rfl rfl rfl rfl rfl)) (fun h => by exact ED.sm (A := none) h ed_int)) ?_ nd rfl (.inl rfl) rfl (.inl rfl)
  refine sds_eq (ρ1 := ⟨0, [none, some (.d (.lam 0 (exP K (.ref (xn.xv (He.ga K)).cls) d (xn.xv (He.ga K)) ae))), some (.d t14), some (.d t15), some (.d t21)], []⟩) ?_ rfl
  replace h := bnd h
  obtain ⟨t22, h22, h⟩ := h
  refine sds_ifM (td_eqM hu (ed_v rfl (.inl rfl) rfl rfl) ed_int h22 rfl) h (fun h => ?_) (fun h => ?_)
  · replace h := bnd h
    obtain ⟨t23, h23, h⟩ := h
    replace h := bnd h
    obtain ⟨t24, h24, h⟩ := h
    replace h := bnd h
    obtain ⟨t25, h25, h⟩ := h
    cases h
    exact sds_ret (ed_tup (ad_cons ed_str (ad_cons (ed_ixM (ed_v rfl (.inl rfl) rfl rfl) (ed_v rfl (.inl rfl) rfl rfl) h23 (fun _ _ => rfl)) (ad_cons (ed_lst (ad_cons (ed_xf (x := xn.xv (He.ga K)) (isXf (T.ixs _ hk0)) (T.nofs _ hk0 _ (by decide +kernel)) hz hv (ed_v rfl (.inl rfl) rfl rfl) h24) (ad_cons (ed_xf (x := xn.xv (He.ga K)) (isXf (T.ixs _ hk0)) (T.nofs _ hk0 _ (by decide +kernel)) hz hv (ed_v rfl (.inl rfl) rfl rfl) h25) ad_nil rfl) rfl) allD2 (by rw [sizeLine_eq]; exact Nat.le_of_ble_eq_true rfl)) ad_nil rfl) rfl) rfl) allD3 (by rw [sizeLine_eq]; exact Nat.le_of_ble_eq_true rfl)) rfl
  · refine sds_nil ?_
    replace h := bnd h
    obtain ⟨t26, h26, h⟩ := h
    refine sds_ifM (td_inM (ed_v rfl (.inl rfl) rfl rfl) (ed_tup (ad_cons ed_int (ad_cons ed_int ad_nil rfl) rfl) allD2 (by rw [sizeLine_eq]; exact Nat.le_of_ble_eq_true rfl)) h26 rfl) h (fun h => ?_) (fun h => ?_)
    · replace h := bnd h
      obtain ⟨t27, h27, h⟩ := h
      replace h := bnd h
      obtain ⟨t28, h28, h⟩ := h
      cases h
      exact sds_ret (ed_tup (ad_cons ed_str (ad_cons (ed_ixM (ed_v rfl (.inl rfl) rfl rfl) (ed_v rfl (.inl rfl) rfl rfl) h27 (fun _ _ => rfl)) (ad_cons (ed_lst (ad_cons (ed_xf (x := xn.xv (He.ga K)) (isXf (T.ixs _ hk0)) (T.nofs _ hk0 _ (by decide +kernel)) hz hv (ed_v rfl (.inl rfl) rfl rfl) h28) ad_nil rfl) allD1 (by rw [sizeLine_eq]; exact Nat.le_of_ble_eq_true rfl)) ad_nil rfl) rfl) rfl) allD3 (by rw [sizeLine_eq]; exact Nat.le_of_ble_eq_true rfl)) rfl
    · refine sds_nil ?_
      replace h := bnd h
      obtain ⟨t29, h29, h⟩ := h
      replace h := bnd h
      obtain ⟨t36, h36, h⟩ := h
      cases h
      exact sds_ret (ed_ifM (td_ltM (ed_v rfl (.inl rfl) rfl rfl) ed_int h29) h36 (fun h => by replace h := bnd h; obtain ⟨t30, h30, h⟩ := h; replace h := bnd h; obtain ⟨t31, h31, h⟩ := h; replace h := bnd h; obtain ⟨t34, h34, h⟩ := h; exact ED.sm (A := none) h (ed_tup (ad_cons ed_str (ad_cons (ed_ixM (ed_v rfl (.inl rfl) rfl rfl) (ed_v rfl (.inl rfl) rfl rfl) h30 (fun _ _ => rfl)) (ad_cons (ed_ifM (td_eqM hu (ed_v rfl (.inl rfl) rfl rfl) ed_int h31 rfl) h34 (fun h => by replace h := bnd h; obtain ⟨t32, h32, h⟩ := h; exact ED.sm (A := none) h (ed_lst (ad_cons (ed_xf (x := xn.xv (He.ga K)) (isXf (T.ixs _ hk0)) (T.nofs _ hk0 _ (by decide +kernel)) hz hv (ed_v rfl (.inl rfl) rfl rfl) h32) ad_nil rfl) allD1 (by rw [sizeLine_eq]; exact Nat.le_of_ble_eq_true rfl))) (fun h => by replace h := bnd h; obtain ⟨t33, h33, h⟩ := h; exact ED.sm (A := none) h (ed_lst (ad_cons (ed_xf (x := xn.xv (He.ga K)) (isXf (T.ixs _ hk0)) (T.nofs _ hk0 _ (by decide +kernel)) hz hv (ed_v rfl (.inl rfl) rfl rfl) h33) ad_nil rfl) allD1 (by rw [sizeLine_eq]; exact Nat.le_of_ble_eq_true rfl)))) ad_nil rfl) rfl) rfl) allD3 (by rw [sizeLine_eq]; exact Nat.le_of_ble_eq_true rfl))) (fun h => by replace h := bnd h; obtain ⟨t35, h35, h⟩ := h; exact ED.sm (A := none) h (ed_tup (ad_cons ed_str (ad_cons (ed_ixM (ed_v rfl (.inl rfl) rfl rfl) (ed_v rfl (.inl rfl) rfl rfl) h35 (fun _ _ => rfl)) ad_nil rfl) rfl) allD2 (by rw [sizeLine_eq]; exact Nat.le_of_ble_eq_true rfl)))) rfl
end

/-! law -/
noncomputable def m_law (a0 : D) : Option (D) :=
  (m_law_dice a0).bind fun t1 => (dRange1 (.int 6)).bind fun t2 => (forF (τ := D) (fun d4 => fun (l3 : List D) => (m_law_stones l3 (.int 8)).bind fun z => (match z with | (t5, o6) => (dPow (.int 10) (.int 9)).bind fun t7 => (m_law_pick o6 (.lst [(.int 60), t7])).bind fun z => (match z with | (t8, o9) => (dPow (.int 10) (.int 9)).bind fun t10 => (m_law_pick o9 (.lst [(.int 1), t10])).bind fun z => (match z with | (t11, o12) => (dAddS t5 (.lst [(.tup [t8, t11])])).bind fun t13 => (dSeqX t13).bind fun t14 => (lcG (fun d15 => (dUn2 d15).bind fun z => (match z with | (x16, x17) => (dStrI x16).bind fun t18 => (dStrI x17).bind fun t19 => some (some (.lst [(.str "stone"), t18, t19])))) t14).bind fun t20 => (dSeqX (.lst t20)).bind fun t21 => (lcG (fun d22 => (dJoin (.str " ") d22).bind fun t23 => some (some t23)) t21).bind fun t24 => (dJoin (.str "\n") (.lst t24)).bind fun t25 => (decStr t25).bind fun t26 => (m_law_made t13).bind fun t27 => (m_format_row t27).bind fun t28 => (dNe t28 (.str t26)).bind fun t29 => (cond t29 (some true) ((m_parse_row (.str t26)).bind fun t30 => (m_Row_stones t30).bind fun t31 => (dTuple t13).bind fun t32 => (dNe t31 t32).bind fun t33 => some t33)).bind fun t34 => cond t34 (some (.rt (.bl false))) ((m_law_next o12 (.int t20.length)).bind fun z => (match z with | (t35, o36) => (lIx t20 t35).bind fun t37 => (dLenX t37).bind fun t38 => (dAddS t38 (.int 1)).bind fun t39 => (m_law_next o36 t39).bind fun z => (match z with | (t40, o41) => (m_law_next o41 (.int 4)).bind fun z => (match z with | (t42, o43) => (m_law_pick o43 (.lst [(.str ""), (.str "0"), (.str "1"), (.str "01"), (.str "stone"), (.str "-1"), (.str "1000000001"), (.str "10000000000"), (.str "x"), (.str "59")])).bind fun z => (match z with | (t44, o45) => (dEq t42 (.int 0)).bind fun t46 => cond t46 ((lIx t20 t35).bind fun t47 => (decInt t40).bind fun t48 => (dCutS t47 none (some t48)).bind fun t49 => (lPut t20 t35 t49).bind fun t50 => (dSeqX (.lst t50)).bind fun t51 => (lcG (fun d52 => (dNe d52 (.lst [])).bind fun t53 => (cond t53 (some d52) (some (.lst [(.str "")]))).bind fun t54 => some (some t54)) t51).bind fun t55 => (dSeqX (.lst t55)).bind fun t56 => (lcG (fun d57 => (dJoin (.str " ") d57).bind fun t58 => some (some t58)) t56).bind fun t59 => (dJoin (.str "\n") (.lst t59)).bind fun t60 => (dNe t60 (.str "")).bind fun t61 => (cond t61 ((m_law_parsed (.lst t55)).bind fun t62 => some t62) (some (.tup []))).bind fun t63 => ((tellM ((x_parse_row t60 : Option XN).bind fun x_ => some (x_, (PUnit.unit : PUnit))) m_su_law_told ((m_parse_row t60).bind fun t66 => (m_Row_stones t66).bind fun t67 => some (t67, PUnit.unit)) : Option (D × PUnit))).bind fun z => (match z with | (t68, _u) => (dNe t68 t63).bind fun t69 => cond t69 (some (.rt (.bl false))) (some (.nx o45)))) ((dEq t42 (.int 1)).bind fun t70 => cond t70 ((lIx t20 t35).bind fun t71 => (decInt t40).bind fun t72 => (dCutS t71 none (some t72)).bind fun t73 => (dAddS t73 (.lst [t44])).bind fun t74 => (lIx t20 t35).bind fun t75 => (dAddS t40 (.int 1)).bind fun t76 => (decInt t76).bind fun t77 => (dCutS t75 (some t77) none).bind fun t78 => (dAddS t74 t78).bind fun t79 => (lPut t20 t35 t79).bind fun t80 => (dSeqX (.lst t80)).bind fun t81 => (lcG (fun d82 => (dNe d82 (.lst [])).bind fun t83 => (cond t83 (some d82) (some (.lst [(.str "")]))).bind fun t84 => some (some t84)) t81).bind fun t85 => (dSeqX (.lst t85)).bind fun t86 => (lcG (fun d87 => (dJoin (.str " ") d87).bind fun t88 => some (some t88)) t86).bind fun t89 => (dJoin (.str "\n") (.lst t89)).bind fun t90 => (dNe t90 (.str "")).bind fun t91 => (cond t91 ((m_law_parsed (.lst t85)).bind fun t92 => some t92) (some (.tup []))).bind fun t93 => ((tellM ((x_parse_row t90 : Option XN).bind fun x_ => some (x_, (PUnit.unit : PUnit))) m_su_law_told ((m_parse_row t90).bind fun t96 => (m_Row_stones t96).bind fun t97 => some (t97, PUnit.unit)) : Option (D × PUnit))).bind fun z => (match z with | (t98, _u) => (dNe t98 t93).bind fun t99 => cond t99 (some (.rt (.bl false))) (some (.nx o45)))) ((dEq t42 (.int 2)).bind fun t100 => cond t100 ((lIx t20 t35).bind fun t101 => (decInt t40).bind fun t102 => (dCutS t101 none (some t102)).bind fun t103 => (dAddS t103 (.lst [t44])).bind fun t104 => (lIx t20 t35).bind fun t105 => (decInt t40).bind fun t106 => (dCutS t105 (some t106) none).bind fun t107 => (dAddS t104 t107).bind fun t108 => (lPut t20 t35 t108).bind fun t109 => (dSeqX (.lst t109)).bind fun t110 => (lcG (fun d111 => (dNe d111 (.lst [])).bind fun t112 => (cond t112 (some d111) (some (.lst [(.str "")]))).bind fun t113 => some (some t113)) t110).bind fun t114 => (dSeqX (.lst t114)).bind fun t115 => (lcG (fun d116 => (dJoin (.str " ") d116).bind fun t117 => some (some t117)) t115).bind fun t118 => (dJoin (.str "\n") (.lst t118)).bind fun t119 => (dNe t119 (.str "")).bind fun t120 => (cond t120 ((m_law_parsed (.lst t114)).bind fun t121 => some t121) (some (.tup []))).bind fun t122 => ((tellM ((x_parse_row t119 : Option XN).bind fun x_ => some (x_, (PUnit.unit : PUnit))) m_su_law_told ((m_parse_row t119).bind fun t125 => (m_Row_stones t125).bind fun t126 => some (t126, PUnit.unit)) : Option (D × PUnit))).bind fun z => (match z with | (t127, _u) => (dNe t127 t122).bind fun t128 => cond t128 (some (.rt (.bl false))) (some (.nx o45)))) ((decInt t35).bind fun t129 => (dCutS (.lst t20) none (some t129)).bind fun t130 => (m_law_pick o45 (.lst t20)).bind fun z => (match z with | (t131, o132) => (dList t131).bind fun t133 => (dAddS t130 (.lst [t133])).bind fun t134 => (decInt t35).bind fun t135 => (dCutS (.lst t20) (some t135) none).bind fun t136 => (dAddS t134 t136).bind fun t137 => (dSeqX t137).bind fun t138 => (lcG (fun d139 => (dNe d139 (.lst [])).bind fun t140 => (cond t140 (some d139) (some (.lst [(.str "")]))).bind fun t141 => some (some t141)) t138).bind fun t142 => (dSeqX (.lst t142)).bind fun t143 => (lcG (fun d144 => (dJoin (.str " ") d144).bind fun t145 => some (some t145)) t143).bind fun t146 => (dJoin (.str "\n") (.lst t146)).bind fun t147 => (dNe t147 (.str "")).bind fun t148 => (cond t148 ((m_law_parsed (.lst t142)).bind fun t149 => some t149) (some (.tup []))).bind fun t150 => ((tellM ((x_parse_row t147 : Option XN).bind fun x_ => some (x_, (PUnit.unit : PUnit))) m_su_law_told ((m_parse_row t147).bind fun t153 => (m_Row_stones t153).bind fun t154 => some (t154, PUnit.unit)) : Option (D × PUnit))).bind fun z => (match z with | (t155, _u) => (dNe t155 t150).bind fun t156 => cond t156 (some (.rt (.bl false))) (some (.nx o132)))))))))))))))) t2 t1).bind fun z => (match z with | .nx l157 => (m_law_next l157 (.int 2)).bind fun z => (match z with | (t158, o159) => (dAddS (.int 40) t158).bind fun t160 => (dRange1 t160).bind fun t161 => (lcG (fun d162 => (dStrI d162).bind fun t163 => (dAddS (.str "stone ") t163).bind fun t164 => (dAddS t164 (.str " 1")).bind fun t165 => some (some t165)) t161).bind fun t166 => (dJoin (.str "\n") (.lst t166)).bind fun t167 => ((tellM ((x_parse_row t167 : Option XN).bind fun x_ => some (x_, (PUnit.unit : PUnit))) m_su_law_told ((m_parse_row t167).bind fun t171 => (m_Row_len t171).bind fun t172 => (dNat t172).bind fun t173 => some (t173, PUnit.unit)) : Option (D × PUnit))).bind fun z => (match z with | (t174, _u) => (dInT t174 (.tup [(.int 40), (.tup [(.str "error"), (.str "InvalidRow"), (.lst [(.int 40)])])])).bind fun t175 => (cond t175 ((m_Row_init (.tup [])).bind fun t176 => (m_format_row t176).bind fun t177 => (dEq t177 (.str "")).bind fun t178 => (cond t178 ((m_parse_row (.str "")).bind fun t179 => (m_Row_stones t179).bind fun t180 => (dEq t180 (.tup [])).bind fun t181 => some t181) (some false)).bind fun t182 => some t182) (some false)).bind fun t183 => some (.bl t183))) | .rt t => some t | .bk _ => none)
def R_law (G : Str → Addr) (TA : Str → Addr) : FSpec := fun xs os r os' => ∃ (a0 : D) , xs = [.d a0] ∧ os = [.tb (TA "law") (lamQ "law")] ∧ os' = [.tb (TA "law") (lamQ "law")] ∧ ∃ t, r = t ∧ m_law a0 = some t
section
variable {P : Program} {w : World} {K : PySem.W.Frag} {mg : Str → Option Value} {base : Heap}
set_option maxHeartbeats 4000000 in
theorem ok_law (T : Tx K mg) (TBA : AllTB base mg K) {fd : FuncData} (F : FunD K "law" "law" (defArgs s_law) (defBody s_law) (defScope s_law) [] [] (He.ga K "law") fd) : FnOk P w K mg base CX0 9 (He.ga K "law") fd ["_law_script"] (spF K (R_law (He.ga K) (fun f => tabA K (He.ga K f)))) := by
  have nd := sc_law.nd
  refine fn_DLok F sc_law ?_ ?_
  · rintro xs os r os' ⟨a0, rfl, rfl, rfl, t, rfl, _⟩
    exact ⟨rfl, rfl, by intro o ho; simp at ho; subst ho; exact trivial⟩
  · rintro A outer s_ H E hr xs os r os' ⟨a0, rfl, rfl, rfl, t, rfl, h⟩ _
    have TB := TBA "law" (by decide)
    have og_law_dice := OG_law_dice (P := P) (w := w) (base := base) T hr (by decide)
    have f_range := T.f_range
    have cg_law_stones := CG_law_stones (P := P) (w := w) (base := base) T hr (by decide)
    have cg_law_pick := CG_law_pick (P := P) (w := w) (base := base) T hr (by decide)
    have f_str := T.f_str
    have cg_format_row := CG_format_row (P := P) (w := w) (base := base) T hr (by decide)
    have cg_law_made := CG_law_made (P := P) (w := w) (base := base) T hr (by decide)
    have hu := room_u hr
    have cg_parse_row := CG_parse_row (P := P) (w := w) (base := base) T hr (by decide)
    have cp_Row_stones := CP_Row_stones (P := P) (w := w) (base := base) T hr (by decide)
    have f_tuple := T.f_tuple
    have cg_law_next := CG_law_next (P := P) (w := w) (base := base) T hr (by decide)
    have f_len := T.f_len
    have cg_law_parsed := CG_law_parsed (P := P) (w := w) (base := base) T hr (by decide)
    have f_list := T.f_list
    have hu65 := room_u65 hr
    have mk_Row_init := MK_Row_init (P := P) (w := w) (base := base) T hr (by decide)
    unfold m_law at h
    refine sds_eq (ρ1 := ⟨1, [some (.d a0), none, none, none, none, none, none, none, none, none, none, none, none, none, none, none], [some (.tb (tabA K (He.ga K "law")) (lamQ "law"))]⟩) ?_ rfl
    replace h := bnd h
    obtain ⟨t1, h1, h⟩ := h
    refine sds_set 1 (ed_callRO og_law_dice (ad_cons (ed_v rfl (.inl rfl) rfl rfl) ad_nil rfl) allD1 ⟨_, rfl, _, rfl, h1⟩ rfl rfl rfl rfl) ?_ nd rfl (.inl rfl) rfl (.inl rfl)
    refine sds_eq (ρ1 := ⟨1, [some (.d a0), some (.loc 1), none, none, none, none, none, none, none, none, none, none, none, none, none, none], [some (.tb (tabA K (He.ga K "law")) (lamQ "law")), some (.lst t1)]⟩) ?_ rfl
    replace h := bnd h
    obtain ⟨t2, h2, h⟩ := h
    replace h := bnd h
    obtain ⟨fl184, h136, h⟩ := h
    refine sds_forCF (vs := [2]) (fun (l3 : List D) => (⟨1, [some (.d a0), some (.loc 1), none, none, none, none, none, none, none, none, none, none, none, none, none, none], [some (.tb (tabA K (He.ga K "law")) (lamQ "law")), some (.lst l3)]⟩ : DL.Env)) (fun _ => rfl) (fun (t : D) d ow => d = t ∧ ow.take 1 = [some (.tb (tabA K (He.ga K "law")) (lamQ "law"))]) _ (it_range1M ed_int h2 rfl f_range rfl) h136 ⟨rfl, (wkK (wkK (wkF (wkF (wkF (wkF (wkF (wkF (wkF (wkF (wkF (wkF (wkF (wkF (wkF (wkF wk0)))))))))))))))), _, rfl⟩ ?_ ?_ ?_ PassesOwn.never rfl (fun _ => rfl)
    · rintro d4 l3 fl_ h
      try dsimp only at h
      refine ⟨_, (tg_name 2 nd rfl (.inl rfl) (.inl rfl)), ?_⟩
      refine sds_eq (ρ1 := ⟨1, [some (.d a0), some (.loc 1), some (.d d4), none, none, none, none, none, none, none, none, none, none, none, none, none], [some (.tb (tabA K (He.ga K "law")) (lamQ "law")), some (.lst l3)]⟩) ?_ rfl
      replace h := bnd h
      obtain ⟨⟨t5, o6⟩, h3, h⟩ := h
      replace h := bnd h
      obtain ⟨t7, h4, h⟩ := h
      replace h := bnd h
      obtain ⟨⟨t8, o9⟩, h5, h⟩ := h
      replace h := bnd h
      obtain ⟨t10, h6, h⟩ := h
      replace h := bnd h
      obtain ⟨⟨t11, o12⟩, h7, h⟩ := h
      replace h := bnd h
      obtain ⟨t13, h8, h⟩ := h
      refine sds_set 3 (ed_addS (ed_callL (ns := [1]) cg_law_stones (ad_cons (ed_v rfl (.inl rfl) rfl rfl) (ad_cons ed_int ad_nil rfl) rfl) (.cons (.loc rfl) (.cons (.d _) .nil)) (Lend.one rfl trivial) ⟨_, _, _, rfl, rfl, rfl, _, rfl, h3⟩ rfl rfl rfl rfl rfl) (ed_lst (ad_cons (ed_tup (ad_cons (ed_callL (ns := [1]) cg_law_pick (ad_cons (ed_v rfl (.inl rfl) rfl rfl) (ad_cons (ed_lst (ad_cons ed_int (ad_cons (ed_powM ed_int ed_int h4) ad_nil rfl) rfl) allD2 (by rw [sizeLine_eq]; exact Nat.le_of_ble_eq_true rfl)) ad_nil rfl) rfl) (.cons (.loc rfl) (.cons (.d _) .nil)) (Lend.one rfl trivial) ⟨_, _, _, rfl, rfl, rfl, _, rfl, h5⟩ rfl rfl rfl rfl rfl) (ad_cons (ed_callL (ns := [1]) cg_law_pick (ad_cons (ed_v rfl (.inl rfl) rfl rfl) (ad_cons (ed_lst (ad_cons ed_int (ad_cons (ed_powM ed_int ed_int h6) ad_nil rfl) rfl) allD2 (by rw [sizeLine_eq]; exact Nat.le_of_ble_eq_true rfl)) ad_nil rfl) rfl) (.cons (.loc rfl) (.cons (.d _) .nil)) (Lend.one rfl trivial) ⟨_, _, _, rfl, rfl, rfl, _, rfl, h7⟩ rfl rfl rfl rfl rfl) ad_nil rfl) rfl) allD2 (by rw [sizeLine_eq]; exact Nat.le_of_ble_eq_true rfl)) ad_nil rfl) allD1 (by rw [sizeLine_eq]; exact Nat.le_of_ble_eq_true rfl)) h8) ?_ nd rfl (.inl rfl) rfl (.inl rfl)
      refine sds_eq (ρ1 := ⟨1, [some (.d a0), some (.loc 1), some (.d d4), some (.d t13), none, none, none, none, none, none, none, none, none, none, none, none], [some (.tb (tabA K (He.ga K "law")) (lamQ "law")), some (.lst o12)]⟩) ?_ rfl
      replace h := bnd h
      obtain ⟨t14, h9, h⟩ := h
      replace h := bnd h
      obtain ⟨t20, h13, h⟩ := h
      refine sds_lcO 4 (own := [("_law_place", 13), ("_law_height", 14)]) (it_seqX (ed_v rfl (.inl rfl) rfl rfl) h9) h13 (fun d15 o h => by replace h := bnd h; obtain ⟨⟨x16, x17⟩, h10, h⟩ := h; replace h := bnd h; obtain ⟨t18, h11, h⟩ := h; replace h := bnd h; obtain ⟨t19, h12, h⟩ := h; obtain rfl := dUn2_ok h10; exact lcP0 (blk_tup rfl (blk_cons (tg_blk 13 nd rfl rfl) (blk_cons (tg_blk 14 nd rfl rfl) blk_nil (fun _ _ _ _ _ => rfl)) (fun _ _ _ _ _ => rfl)) (fun _ _ _ _ _ => rfl) (fun _ _ _ _ _ => rfl)) (fun _ _ _ _ _ => (ed_lst (ad_cons ed_str (ad_cons (ed_bty' (cb_strI h11) (ad_cons (ed_v rfl (by walk_at "vis") rfl rfl) ad_nil rfl) f_str boot_str rfl (by decide) rfl rfl rfl) (ad_cons (ed_bty' (cb_strI h12) (ad_cons (ed_v rfl (by walk_at "vis") rfl rfl) ad_nil rfl) f_str boot_str rfl (by decide) rfl rfl rfl) ad_nil rfl) rfl) rfl) allD3 (by rw [sizeLine_eq]; exact Nat.le_of_ble_eq_true rfl))) h) ?_ (by decide) (blkOk_by rfl) nd rfl rfl rfl rfl (fun _ => rfl)
      refine sds_eq (ρ1 := ⟨1, [some (.d a0), some (.loc 1), some (.d d4), some (.d t13), some (.loc 2), none, none, none, none, none, none, none, none, none, none, none], [some (.tb (tabA K (He.ga K "law")) (lamQ "law")), some (.lst o12), some (.lst t20)]⟩) ?_ rfl
      replace h := bnd h
      obtain ⟨t21, h14, h⟩ := h
      replace h := bnd h
      obtain ⟨t24, h16, h⟩ := h
      replace h := bnd h
      obtain ⟨t25, h17, h⟩ := h
      replace h := bnd h
      obtain ⟨t26, h18, h⟩ := h
      refine sds_set 5 (ed_lookS (n := 2) rfl (ed_joinM ed_str (ed_lcC (own := [("_law_line", 15)]) (it_seqX (ed_v rfl (.inl rfl) rfl rfl) h14) h16 (fun d22 o h => by replace h := bnd h; obtain ⟨t23, h15, h⟩ := h; exact lcP0 (tg_blk 15 nd rfl rfl) (fun _ _ _ _ _ => (ed_joinM ed_str (ed_v rfl (by walk_at "vis") rfl rfl) h15 rfl rfl rfl)) h) (by decide) (blkOk_by rfl) nd rfl (fun _ => rfl)) h17 rfl rfl rfl) h18) ?_ nd rfl (by walk_at "loc") rfl (by walk_at "loc")
      refine sds_eq (ρ1 := ⟨1, [some (.d a0), some (.loc 1), some (.d d4), some (.d t13), some (.loc 2), some (.d (.str t26)), none, none, none, none, none, none, none, none, none, none], [some (.tb (tabA K (He.ga K "law")) (lamQ "law")), some (.lst o12), some (.lst t20)]⟩) ?_ rfl
      replace h := bnd h
      obtain ⟨t27, h19, h⟩ := h
      replace h := bnd h
      obtain ⟨t28, h20, h⟩ := h
      replace h := bnd h
      obtain ⟨t29, h21, h⟩ := h
      replace h := bnd h
      obtain ⟨t34, h26, h⟩ := h
      refine sds_ifM (TW.td (tw_orM (td_neM hu (ed_call cg_format_row (ad_cons (ed_call cg_law_made (ad_cons (ed_v rfl (.inl rfl) rfl rfl) ad_nil rfl) allD1 ⟨_, rfl, rfl, rfl, _, rfl, h19⟩ rfl rfl rfl rfl) ad_nil rfl) allD1 ⟨_, rfl, rfl, rfl, _, rfl, h20⟩ rfl rfl rfl rfl) (ed_v rfl (by walk_at "vis") rfl rfl) h21 rfl) h26 (fun h => by replace h := bnd h; obtain ⟨t30, h22, h⟩ := h; replace h := bnd h; obtain ⟨t31, h23, h⟩ := h; replace h := bnd h; obtain ⟨t32, h24, h⟩ := h; replace h := bnd h; obtain ⟨t33, h25, h⟩ := h; exact TW.sm h (tw_or1 (td_neM hu (ed_propM cp_Row_stones (ed_call cg_parse_row (ad_cons (ed_v rfl (by walk_at "vis") rfl rfl) ad_nil rfl) allD1 ⟨_, rfl, rfl, rfl, _, rfl, h22⟩ rfl rfl rfl rfl) ⟨_, rfl, rfl, rfl, _, rfl, h23⟩) (ed_bty' (cb_tupM h24) (ad_cons (ed_v rfl (.inl rfl) rfl rfl) ad_nil rfl) f_tuple boot_tuple rfl (by decide) rfl rfl rfl) h25 rfl))))) h (fun h => ?_) (fun h => ?_)
      · cases h
        exact sds_ret ed_bl ⟨_, rfl, ⟨rfl, rfl⟩⟩
      · refine sds_nil ?_
        replace h := bnd h
        obtain ⟨⟨t35, o36⟩, h27, h⟩ := h
        refine sds_set 6 (ed_callL (ns := [1]) cg_law_next (ad_cons (ed_v rfl (.inl rfl) rfl rfl) (ad_cons (ed_blt (cb_lenO rfl) (ad_cons (ed_v rfl (.inl rfl) rfl rfl) ad_nil rfl) f_len boot_len rfl (by decide) rfl rfl rfl) ad_nil rfl) rfl) (.cons (.loc rfl) (.cons (.d _) .nil)) (Lend.one rfl trivial) ⟨_, _, _, rfl, rfl, rfl, _, rfl, h27⟩ rfl rfl rfl rfl rfl) ?_ nd rfl (.inl rfl) rfl (.inl rfl)
        refine sds_eq (ρ1 := ⟨1, [some (.d a0), some (.loc 1), some (.d d4), some (.d t13), some (.loc 2), some (.d (.str t26)), some (.d t35), none, none, none, none, none, none, none, none, none], [some (.tb (tabA K (He.ga K "law")) (lamQ "law")), some (.lst o36), some (.lst t20)]⟩) ?_ rfl
        replace h := bnd h
        obtain ⟨t37, h28, h⟩ := h
        replace h := bnd h
        obtain ⟨t38, h29, h⟩ := h
        replace h := bnd h
        obtain ⟨t39, h30, h⟩ := h
        replace h := bnd h
        obtain ⟨⟨t40, o41⟩, h31, h⟩ := h
        replace h := bnd h
        obtain ⟨⟨t42, o43⟩, h32, h⟩ := h
        refine sds_par 7 8 (ad_cons (ed_callL (ns := [1]) cg_law_next (ad_cons (ed_v rfl (.inl rfl) rfl rfl) (ad_cons (ed_addS (ed_blt (cb_lenX h29) (ad_cons (ed_ixOM (ed_v rfl (.inl rfl) rfl rfl) (ed_v rfl (.inl rfl) rfl rfl) rfl h28 (fun _ _ => rfl)) ad_nil rfl) f_len boot_len rfl (by decide) rfl rfl rfl) ed_int h30) ad_nil rfl) rfl) (.cons (.loc rfl) (.cons (.d _) .nil)) (Lend.one rfl trivial) ⟨_, _, _, rfl, rfl, rfl, _, rfl, h31⟩ rfl rfl rfl rfl rfl) (ad_cons (ed_callL (ns := [1]) cg_law_next (ad_cons (ed_v rfl (.inl rfl) rfl rfl) (ad_cons ed_int ad_nil rfl) rfl) (.cons (.loc rfl) (.cons (.d _) .nil)) (Lend.one rfl trivial) ⟨_, _, _, rfl, rfl, rfl, _, rfl, h32⟩ rfl rfl rfl rfl rfl) ad_nil rfl) rfl) ?_ rfl nd rfl rfl (by decide) rfl rfl rfl rfl
        refine sds_eq (ρ1 := ⟨1, [some (.d a0), some (.loc 1), some (.d d4), some (.d t13), some (.loc 2), some (.d (.str t26)), some (.d t35), some (.d t40), some (.d t42), none, none, none, none, none, none, none], [some (.tb (tabA K (He.ga K "law")) (lamQ "law")), some (.lst o43), some (.lst t20)]⟩) ?_ rfl
        replace h := bnd h
        obtain ⟨⟨t44, o45⟩, h33, h⟩ := h
        refine sds_set 9 (ed_callL (ns := [1]) cg_law_pick (ad_cons (ed_v rfl (.inl rfl) rfl rfl) (ad_cons (ed_lst (ad_cons ed_str (ad_cons ed_str (ad_cons ed_str (ad_cons ed_str (ad_cons ed_str (ad_cons ed_str (ad_cons ed_str (ad_cons ed_str (ad_cons ed_str (ad_cons ed_str ad_nil rfl) rfl) rfl) rfl) rfl) rfl) rfl) rfl) rfl) rfl) (AllD.cons (AllD.cons (AllD.cons (AllD.cons (AllD.cons (AllD.cons (AllD.cons (AllD.cons (AllD.cons (AllD.cons AllD.nil)))))))))) (by rw [sizeLine_eq]; exact Nat.le_of_ble_eq_true rfl)) ad_nil rfl) rfl) (.cons (.loc rfl) (.cons (.d _) .nil)) (Lend.one rfl trivial) ⟨_, _, _, rfl, rfl, rfl, _, rfl, h33⟩ rfl rfl rfl rfl rfl) ?_ nd rfl (.inl rfl) rfl (.inl rfl)
        refine sds_eq (ρ1 := ⟨1, [some (.d a0), some (.loc 1), some (.d d4), some (.d t13), some (.loc 2), some (.d (.str t26)), some (.d t35), some (.d t40), some (.d t42), some (.d t44), none, none, none, none, none, none], [some (.tb (tabA K (He.ga K "law")) (lamQ "law")), some (.lst o45), some (.lst t20)]⟩) ?_ rfl
        replace h := bnd h
        obtain ⟨t46, h34, h⟩ := h
        refine sds_ifM (td_eqM hu (ed_v rfl (.inl rfl) rfl rfl) ed_int h34 rfl) h (fun h => ?_) (fun h => ?_)
        · replace h := bnd h
          obtain ⟨t47, h35, h⟩ := h
          replace h := bnd h
          obtain ⟨t48, h36, h⟩ := h
          replace h := bnd h
          obtain ⟨t49, h37, h⟩ := h
          replace h := bnd h
          obtain ⟨t50, h38, h⟩ := h
          refine sds_setIxM (ed_sliceS (ed_ixOM (ed_v rfl (.inl rfl) rfl rfl) (ed_v rfl (.inl rfl) rfl rfl) rfl h35 (fun _ _ => rfl)) pd_none (pd_someM (ed_v rfl (.inl rfl) rfl rfl) h36) h37) (ed_v rfl (.inl rfl) rfl rfl) (ed_v rfl (.inl rfl) rfl rfl) rfl h38 ?_ (fun _ => rfl) rfl rfl rfl
          refine sds_eq (ρ1 := ⟨1, [some (.d a0), some (.loc 1), some (.d d4), some (.d t13), some (.loc 2), some (.d (.str t26)), some (.d t35), some (.d t40), some (.d t42), some (.d t44), none, none, none, none, none, none], [some (.tb (tabA K (He.ga K "law")) (lamQ "law")), some (.lst o45), some (.lst t50)]⟩) ?_ rfl
          refine sds_nil ?_
          replace h := bnd h
          obtain ⟨t51, h39, h⟩ := h
          replace h := bnd h
          obtain ⟨t55, h42, h⟩ := h
          refine sds_lcC 4 (own := [("_law_line", 15)]) (it_seqX (ED.fzL (ed_v rfl (.inl rfl) rfl rfl) rfl (Nat.le_of_ble_eq_true rfl) rfl) h39) h42 (fun d52 o h => by replace h := bnd h; obtain ⟨t53, h40, h⟩ := h; replace h := bnd h; obtain ⟨t54, h41, h⟩ := h; exact lcP0 (tg_blk 15 nd rfl rfl) (fun _ _ _ _ _ => (ed_ifM (td_neM hu (ed_v rfl (by walk_at "vis") rfl rfl) (ed_lst ad_nil AllD.nil (by rw [sizeLine_eq]; exact Nat.le_of_ble_eq_true rfl)) h40 rfl) h41 (fun h => by exact ED.sm (A := none) h (ed_v rfl (by walk_at "vis") rfl rfl)) (fun h => by exact ED.sm (A := none) h (ed_lst (ad_cons ed_str ad_nil rfl) allD1 (by rw [sizeLine_eq]; exact Nat.le_of_ble_eq_true rfl))))) h) ?_ (by decide) (blkOk_by rfl) nd rfl rfl rfl rfl (fun _ => rfl)
          refine sds_eq (ρ1 := ⟨1, [some (.d a0), some (.loc 1), some (.d d4), some (.d t13), some (.d (.lst t55)), some (.d (.str t26)), some (.d t35), some (.d t40), some (.d t42), some (.d t44), none, none, none, none, none, none], [some (.tb (tabA K (He.ga K "law")) (lamQ "law")), some (.lst o45), none]⟩) ?_ rfl
          replace h := bnd h
          obtain ⟨t56, h43, h⟩ := h
          replace h := bnd h
          obtain ⟨t59, h45, h⟩ := h
          replace h := bnd h
          obtain ⟨t60, h46, h⟩ := h
          refine sds_set 5 (ed_joinM ed_str (ed_lcC (own := [("_law_line", 15)]) (it_seqX (ed_v rfl (.inl rfl) rfl rfl) h43) h45 (fun d57 o h => by replace h := bnd h; obtain ⟨t58, h44, h⟩ := h; exact lcP0 (tg_blk 15 nd rfl rfl) (fun _ _ _ _ _ => (ed_joinM ed_str (ed_v rfl (by walk_at "vis") rfl rfl) h44 rfl rfl rfl)) h) (by decide) (blkOk_by rfl) nd rfl (fun _ => rfl)) h46 rfl rfl rfl) ?_ nd rfl (by walk_at "loc") rfl (by walk_at "loc")
          refine sds_eq (ρ1 := ⟨1, [some (.d a0), some (.loc 1), some (.d d4), some (.d t13), some (.d (.lst t55)), some (.d t60), some (.d t35), some (.d t40), some (.d t42), some (.d t44), none, none, none, none, none, none], [some (.tb (tabA K (He.ga K "law")) (lamQ "law")), some (.lst o45), none]⟩) ?_ rfl
          replace h := bnd h
          obtain ⟨t61, h47, h⟩ := h
          replace h := bnd h
          obtain ⟨t63, h49, h⟩ := h
          refine sds_set 10 (ed_ifM (td_neM hu (ed_v rfl (by walk_at "vis") rfl rfl) ed_str h47 rfl) h49 (fun h => by replace h := bnd h; obtain ⟨t62, h48, h⟩ := h; exact ED.sm (A := none) h (ed_call cg_law_parsed (ad_cons (ed_v rfl (.inl rfl) rfl rfl) ad_nil rfl) allD1 ⟨_, rfl, rfl, rfl, _, rfl, h48⟩ rfl rfl rfl rfl)) (fun h => by exact ED.sm (A := none) h (ed_tup ad_nil AllD.nil (by rw [sizeLine_eq]; exact Nat.le_of_ble_eq_true rfl)))) ?_ nd rfl (.inl rfl) rfl (.inl rfl)
          refine sds_eq (ρ1 := ⟨1, [some (.d a0), some (.loc 1), some (.d d4), some (.d t13), some (.d (.lst t55)), some (.d t60), some (.d t35), some (.d t40), some (.d t42), some (.d t44), some (.d t63), none, none, none, none, none], [some (.tb (tabA K (He.ga K "law")) (lamQ "law")), some (.lst o45), none]⟩) ?_ rfl
          replace h := bnd h
          obtain ⟨⟨t68, _u⟩, h54, h⟩ := h
          replace h := bnd h
          obtain ⟨t69, h55, h⟩ := h
          refine sds_ifM (td_neM hu (show ED _ (⟨1, [some (.d a0), some (.loc 1), some (.d d4), some (.d t13), some (.d (.lst t55)), some (.d t60), some (.d t35), some (.d t40), some (.d t42), some (.d t44), some (.d t63), none, none, none, none, none], [some (.tb (tabA K (He.ga K "law")) (lamQ "law")), some (.lst o45), none]⟩) _ (.d t68) (⟨1, [some (.d a0), some (.loc 1), some (.d d4), some (.d t13), some (.d (.lst t55)), some (.d t60), some (.d t35), some (.d t40), some (.d t42), some (.d t44), some (.d t63), none, none, none, none, none], [some (.tb (tabA K (He.ga K "law")) (lamQ "law")), some (.lst o45), none]⟩) from by
                                                            rcases tellM_or h54 with ⟨xn, hx, hs⟩ | hm
                                                            · obtain ⟨hxx, ex_⟩ := map_x hx
                                                              clear hx
                                                              dsimp only at hxx ex_
                                                              cases ex_
                                                              exact ED.to (told_X (k := 6) (xx := xn.xv (He.ga K)) (TD_law_told T rfl) (TY_law_told T) (hr.mono (by decide)) (ed_lam0 (i := 13) (n := 0) rfl TB rfl (fun ok => LamS3.has (lamS3_by rfl) ok) rfl) (lamS3_by rfl) (.none fun _ _ _ _ _ _ => rfl) (T.ems _ (su_in_law_told hs)) (fun E_ A_ o_ s_ H_ f_ c_ hr => by
                                                                have cg_parse_row := CG_parse_row (P := P) (w := w) (base := base) T hr (by decide)
                                                                have xg_parse_row := XG_parse_row (P := P) (w := w) (base := base) T hr (by decide)
                                                                have cp_Row_stones := CP_Row_stones (P := P) (w := w) (base := base) T hr (by decide)
                                                                replace h := hxx
                                                                exact EX.to (ex_attr (ex_call lam_lets xg_parse_row (ad_cons (ed_v rfl (by walk_at "vis") rfl rfl) ad_nil rfl) allD1 ⟨_, rfl, rfl, rfl, _, rfl, h⟩ rfl rfl rfl rfl) rfl) rfl) (su_law_told T hs)) rfl rfl
                                                            · replace h := hm
                                                              replace h := bnd h
                                                              obtain ⟨t66, h52, h⟩ := h
                                                              replace h := bnd h
                                                              obtain ⟨t67, h53, h⟩ := h
                                                              cases h
                                                              exact ED.to (told_N (k := 6) (TD_law_told T rfl) (TY_law_told T) (hr.mono (by decide)) (ed_lam0 (i := 13) (n := 0) rfl TB rfl (fun ok => LamS3.has (lamS3_by rfl) ok) rfl) (lamS3_by rfl) (.none fun _ _ _ _ _ _ => rfl) (fun E_ A_ o_ s_ H_ f_ c_ hr =>
                                                                have cg_parse_row := CG_parse_row (P := P) (w := w) (base := base) T hr (by decide)
                                                                have cp_Row_stones := CP_Row_stones (P := P) (w := w) (base := base) T hr (by decide)
                                                                (ed_propM cp_Row_stones (ed_call cg_parse_row (ad_cons (ed_v rfl (by walk_at "vis") rfl rfl) ad_nil rfl) allD1 ⟨_, rfl, rfl, rfl, _, rfl, h52⟩ rfl rfl rfl rfl) ⟨_, rfl, rfl, rfl, _, rfl, h53⟩))) rfl rfl) (ed_v rfl (.inl rfl) rfl rfl) h55 rfl) h (fun h => ?_) (fun h => ?_)
          · cases h
            exact sds_ret ed_bl ⟨_, rfl, ⟨rfl, rfl⟩⟩
          · refine sds_nil ?_
            cases h
            exact sds_nil ⟨_, rfl, ⟨rfl, (wkK (wkK (wkF (wkF (wkF (wkF (wkF (wkF (wkF (wkF (wkF (wkF (wkF (wkF (wkF (wkF wk0)))))))))))))))), _, rfl⟩⟩
        · replace h := bnd h
          obtain ⟨t70, h56, h⟩ := h
          refine sds_ifM (td_eqM hu (ed_v rfl (.inl rfl) rfl rfl) ed_int h56 rfl) h (fun h => ?_) (fun h => ?_)
          · replace h := bnd h
            obtain ⟨t71, h57, h⟩ := h
            replace h := bnd h
            obtain ⟨t72, h58, h⟩ := h
            replace h := bnd h
            obtain ⟨t73, h59, h⟩ := h
            replace h := bnd h
            obtain ⟨t74, h60, h⟩ := h
            replace h := bnd h
            obtain ⟨t75, h61, h⟩ := h
            replace h := bnd h
            obtain ⟨t76, h62, h⟩ := h
            replace h := bnd h
            obtain ⟨t77, h63, h⟩ := h
            replace h := bnd h
            obtain ⟨t78, h64, h⟩ := h
            replace h := bnd h
            obtain ⟨t79, h65, h⟩ := h
            replace h := bnd h
            obtain ⟨t80, h66, h⟩ := h
            refine sds_setIxM (ed_addS (ed_addS (ed_sliceS (ed_ixOM (ed_v rfl (.inl rfl) rfl rfl) (ed_v rfl (.inl rfl) rfl rfl) rfl h57 (fun _ _ => rfl)) pd_none (pd_someM (ed_v rfl (.inl rfl) rfl rfl) h58) h59) (ed_lst (ad_cons (ed_v rfl (.inl rfl) rfl rfl) ad_nil rfl) allD1 (by rw [sizeLine_eq]; exact Nat.le_of_ble_eq_true rfl)) h60) (ed_sliceS (ed_ixOM (ed_v rfl (.inl rfl) rfl rfl) (ed_v rfl (.inl rfl) rfl rfl) rfl h61 (fun _ _ => rfl)) (pd_someM (ed_addS (ed_v rfl (.inl rfl) rfl rfl) ed_int h62) h63) pd_none h64) h65) (ed_v rfl (.inl rfl) rfl rfl) (ed_v rfl (.inl rfl) rfl rfl) rfl h66 ?_ (fun _ => rfl) rfl rfl rfl
            refine sds_eq (ρ1 := ⟨1, [some (.d a0), some (.loc 1), some (.d d4), some (.d t13), some (.loc 2), some (.d (.str t26)), some (.d t35), some (.d t40), some (.d t42), some (.d t44), none, none, none, none, none, none], [some (.tb (tabA K (He.ga K "law")) (lamQ "law")), some (.lst o45), some (.lst t80)]⟩) ?_ rfl
            refine sds_nil ?_
            refine sds_nil ?_
            replace h := bnd h
            obtain ⟨t81, h67, h⟩ := h
            replace h := bnd h
            obtain ⟨t85, h70, h⟩ := h
            refine sds_lcC 4 (own := [("_law_line", 15)]) (it_seqX (ED.fzL (ed_v rfl (.inl rfl) rfl rfl) rfl (Nat.le_of_ble_eq_true rfl) rfl) h67) h70 (fun d82 o h => by replace h := bnd h; obtain ⟨t83, h68, h⟩ := h; replace h := bnd h; obtain ⟨t84, h69, h⟩ := h; exact lcP0 (tg_blk 15 nd rfl rfl) (fun _ _ _ _ _ => (ed_ifM (td_neM hu (ed_v rfl (by walk_at "vis") rfl rfl) (ed_lst ad_nil AllD.nil (by rw [sizeLine_eq]; exact Nat.le_of_ble_eq_true rfl)) h68 rfl) h69 (fun h => by exact ED.sm (A := none) h (ed_v rfl (by walk_at "vis") rfl rfl)) (fun h => by exact ED.sm (A := none) h (ed_lst (ad_cons ed_str ad_nil rfl) allD1 (by rw [sizeLine_eq]; exact Nat.le_of_ble_eq_true rfl))))) h) ?_ (by decide) (blkOk_by rfl) nd rfl rfl rfl rfl (fun _ => rfl)
            refine sds_eq (ρ1 := ⟨1, [some (.d a0), some (.loc 1), some (.d d4), some (.d t13), some (.d (.lst t85)), some (.d (.str t26)), some (.d t35), some (.d t40), some (.d t42), some (.d t44), none, none, none, none, none, none], [some (.tb (tabA K (He.ga K "law")) (lamQ "law")), some (.lst o45), none]⟩) ?_ rfl
            replace h := bnd h
            obtain ⟨t86, h71, h⟩ := h
            replace h := bnd h
            obtain ⟨t89, h73, h⟩ := h
            replace h := bnd h
            obtain ⟨t90, h74, h⟩ := h
            refine sds_set 5 (ed_joinM ed_str (ed_lcC (own := [("_law_line", 15)]) (it_seqX (ed_v rfl (.inl rfl) rfl rfl) h71) h73 (fun d87 o h => by replace h := bnd h; obtain ⟨t88, h72, h⟩ := h; exact lcP0 (tg_blk 15 nd rfl rfl) (fun _ _ _ _ _ => (ed_joinM ed_str (ed_v rfl (by walk_at "vis") rfl rfl) h72 rfl rfl rfl)) h) (by decide) (blkOk_by rfl) nd rfl (fun _ => rfl)) h74 rfl rfl rfl) ?_ nd rfl (by walk_at "loc") rfl (by walk_at "loc")
            refine sds_eq (ρ1 := ⟨1, [some (.d a0), some (.loc 1), some (.d d4), some (.d t13), some (.d (.lst t85)), some (.d t90), some (.d t35), some (.d t40), some (.d t42), some (.d t44), none, none, none, none, none, none], [some (.tb (tabA K (He.ga K "law")) (lamQ "law")), some (.lst o45), none]⟩) ?_ rfl
            replace h := bnd h
            obtain ⟨t91, h75, h⟩ := h
            replace h := bnd h
            obtain ⟨t93, h77, h⟩ := h
            refine sds_set 10 (ed_ifM (td_neM hu (ed_v rfl (by walk_at "vis") rfl rfl) ed_str h75 rfl) h77 (fun h => by replace h := bnd h; obtain ⟨t92, h76, h⟩ := h; exact ED.sm (A := none) h (ed_call cg_law_parsed (ad_cons (ed_v rfl (.inl rfl) rfl rfl) ad_nil rfl) allD1 ⟨_, rfl, rfl, rfl, _, rfl, h76⟩ rfl rfl rfl rfl)) (fun h => by exact ED.sm (A := none) h (ed_tup ad_nil AllD.nil (by rw [sizeLine_eq]; exact Nat.le_of_ble_eq_true rfl)))) ?_ nd rfl (.inl rfl) rfl (.inl rfl)
            refine sds_eq (ρ1 := ⟨1, [some (.d a0), some (.loc 1), some (.d d4), some (.d t13), some (.d (.lst t85)), some (.d t90), some (.d t35), some (.d t40), some (.d t42), some (.d t44), some (.d t93), none, none, none, none, none], [some (.tb (tabA K (He.ga K "law")) (lamQ "law")), some (.lst o45), none]⟩) ?_ rfl
            replace h := bnd h
            obtain ⟨⟨t98, _u⟩, h82, h⟩ := h
            replace h := bnd h
            obtain ⟨t99, h83, h⟩ := h
            refine sds_ifM (td_neM hu (show ED _ (⟨1, [some (.d a0), some (.loc 1), some (.d d4), some (.d t13), some (.d (.lst t85)), some (.d t90), some (.d t35), some (.d t40), some (.d t42), some (.d t44), some (.d t93), none, none, none, none, none], [some (.tb (tabA K (He.ga K "law")) (lamQ "law")), some (.lst o45), none]⟩) _ (.d t98) (⟨1, [some (.d a0), some (.loc 1), some (.d d4), some (.d t13), some (.d (.lst t85)), some (.d t90), some (.d t35), some (.d t40), some (.d t42), some (.d t44), some (.d t93), none, none, none, none, none], [some (.tb (tabA K (He.ga K "law")) (lamQ "law")), some (.lst o45), none]⟩) from by
                                                            rcases tellM_or h82 with ⟨xn, hx, hs⟩ | hm
                                                            · obtain ⟨hxx, ex_⟩ := map_x hx
                                                              clear hx
                                                              dsimp only at hxx ex_
                                                              cases ex_
                                                              exact ED.to (told_X (k := 6) (xx := xn.xv (He.ga K)) (TD_law_told T rfl) (TY_law_told T) (hr.mono (by decide)) (ed_lam0 (i := 14) (n := 0) rfl TB rfl (fun ok => LamS3.has (lamS3_by rfl) ok) rfl) (lamS3_by rfl) (.none fun _ _ _ _ _ _ => rfl) (T.ems _ (su_in_law_told hs)) (fun E_ A_ o_ s_ H_ f_ c_ hr => by
                                                                have cg_parse_row := CG_parse_row (P := P) (w := w) (base := base) T hr (by decide)
                                                                have xg_parse_row := XG_parse_row (P := P) (w := w) (base := base) T hr (by decide)
                                                                have cp_Row_stones := CP_Row_stones (P := P) (w := w) (base := base) T hr (by decide)
                                                                replace h := hxx
                                                                exact EX.to (ex_attr (ex_call lam_lets xg_parse_row (ad_cons (ed_v rfl (by walk_at "vis") rfl rfl) ad_nil rfl) allD1 ⟨_, rfl, rfl, rfl, _, rfl, h⟩ rfl rfl rfl rfl) rfl) rfl) (su_law_told T hs)) rfl rfl
                                                            · replace h := hm
                                                              replace h := bnd h
                                                              obtain ⟨t96, h80, h⟩ := h
                                                              replace h := bnd h
                                                              obtain ⟨t97, h81, h⟩ := h
                                                              cases h
                                                              exact ED.to (told_N (k := 6) (TD_law_told T rfl) (TY_law_told T) (hr.mono (by decide)) (ed_lam0 (i := 14) (n := 0) rfl TB rfl (fun ok => LamS3.has (lamS3_by rfl) ok) rfl) (lamS3_by rfl) (.none fun _ _ _ _ _ _ => rfl) (fun E_ A_ o_ s_ H_ f_ c_ hr =>
                                                                have cg_parse_row := CG_parse_row (P := P) (w := w) (base := base) T hr (by decide)
                                                                have cp_Row_stones := CP_Row_stones (P := P) (w := w) (base := base) T hr (by decide)
                                                                (ed_propM cp_Row_stones (ed_call cg_parse_row (ad_cons (ed_v rfl (by walk_at "vis") rfl rfl) ad_nil rfl) allD1 ⟨_, rfl, rfl, rfl, _, rfl, h80⟩ rfl rfl rfl rfl) ⟨_, rfl, rfl, rfl, _, rfl, h81⟩))) rfl rfl) (ed_v rfl (.inl rfl) rfl rfl) h83 rfl) h (fun h => ?_) (fun h => ?_)
            · cases h
              exact sds_ret ed_bl ⟨_, rfl, ⟨rfl, rfl⟩⟩
            · refine sds_nil ?_
              cases h
              exact sds_nil ⟨_, rfl, ⟨rfl, (wkK (wkK (wkF (wkF (wkF (wkF (wkF (wkF (wkF (wkF (wkF (wkF (wkF (wkF (wkF (wkF wk0)))))))))))))))), _, rfl⟩⟩
          · replace h := bnd h
            obtain ⟨t100, h84, h⟩ := h
            refine sds_ifM (td_eqM hu (ed_v rfl (.inl rfl) rfl rfl) ed_int h84 rfl) h (fun h => ?_) (fun h => ?_)
            · replace h := bnd h
              obtain ⟨t101, h85, h⟩ := h
              replace h := bnd h
              obtain ⟨t102, h86, h⟩ := h
              replace h := bnd h
              obtain ⟨t103, h87, h⟩ := h
              replace h := bnd h
              obtain ⟨t104, h88, h⟩ := h
              replace h := bnd h
              obtain ⟨t105, h89, h⟩ := h
              replace h := bnd h
              obtain ⟨t106, h90, h⟩ := h
              replace h := bnd h
              obtain ⟨t107, h91, h⟩ := h
              replace h := bnd h
              obtain ⟨t108, h92, h⟩ := h
              replace h := bnd h
              obtain ⟨t109, h93, h⟩ := h
              refine sds_setIxM (ed_addS (ed_addS (ed_sliceS (ed_ixOM (ed_v rfl (.inl rfl) rfl rfl) (ed_v rfl (.inl rfl) rfl rfl) rfl h85 (fun _ _ => rfl)) pd_none (pd_someM (ed_v rfl (.inl rfl) rfl rfl) h86) h87) (ed_lst (ad_cons (ed_v rfl (.inl rfl) rfl rfl) ad_nil rfl) allD1 (by rw [sizeLine_eq]; exact Nat.le_of_ble_eq_true rfl)) h88) (ed_sliceS (ed_ixOM (ed_v rfl (.inl rfl) rfl rfl) (ed_v rfl (.inl rfl) rfl rfl) rfl h89 (fun _ _ => rfl)) (pd_someM (ed_v rfl (.inl rfl) rfl rfl) h90) pd_none h91) h92) (ed_v rfl (.inl rfl) rfl rfl) (ed_v rfl (.inl rfl) rfl rfl) rfl h93 ?_ (fun _ => rfl) rfl rfl rfl
              refine sds_eq (ρ1 := ⟨1, [some (.d a0), some (.loc 1), some (.d d4), some (.d t13), some (.loc 2), some (.d (.str t26)), some (.d t35), some (.d t40), some (.d t42), some (.d t44), none, none, none, none, none, none], [some (.tb (tabA K (He.ga K "law")) (lamQ "law")), some (.lst o45), some (.lst t109)]⟩) ?_ rfl
              refine sds_nil ?_
              refine sds_nil ?_
              refine sds_nil ?_
              replace h := bnd h
              obtain ⟨t110, h94, h⟩ := h
              replace h := bnd h
              obtain ⟨t114, h97, h⟩ := h
              refine sds_lcC 4 (own := [("_law_line", 15)]) (it_seqX (ED.fzL (ed_v rfl (.inl rfl) rfl rfl) rfl (Nat.le_of_ble_eq_true rfl) rfl) h94) h97 (fun d111 o h => by replace h := bnd h; obtain ⟨t112, h95, h⟩ := h; replace h := bnd h; obtain ⟨t113, h96, h⟩ := h; exact lcP0 (tg_blk 15 nd rfl rfl) (fun _ _ _ _ _ => (ed_ifM (td_neM hu (ed_v rfl (by walk_at "vis") rfl rfl) (ed_lst ad_nil AllD.nil (by rw [sizeLine_eq]; exact Nat.le_of_ble_eq_true rfl)) h95 rfl) h96 (fun h => by exact ED.sm (A := none) h (ed_v rfl (by walk_at "vis") rfl rfl)) (fun h => by exact ED.sm (A := none) h (ed_lst (ad_cons ed_str ad_nil rfl) allD1 (by rw [sizeLine_eq]; exact Nat.le_of_ble_eq_true rfl))))) h) ?_ (by decide) (blkOk_by rfl) nd rfl rfl rfl rfl (fun _ => rfl)
              refine sds_eq (ρ1 := ⟨1, [some (.d a0), some (.loc 1), some (.d d4), some (.d t13), some (.d (.lst t114)), some (.d (.str t26)), some (.d t35), some (.d t40), some (.d t42), some (.d t44), none, none, none, none, none, none], [some (.tb (tabA K (He.ga K "law")) (lamQ "law")), some (.lst o45), none]⟩) ?_ rfl
              replace h := bnd h
              obtain ⟨t115, h98, h⟩ := h
              replace h := bnd h
              obtain ⟨t118, h100, h⟩ := h
              replace h := bnd h
              obtain ⟨t119, h101, h⟩ := h
              refine sds_set 5 (ed_joinM ed_str (ed_lcC (own := [("_law_line", 15)]) (it_seqX (ed_v rfl (.inl rfl) rfl rfl) h98) h100 (fun d116 o h => by replace h := bnd h; obtain ⟨t117, h99, h⟩ := h; exact lcP0 (tg_blk 15 nd rfl rfl) (fun _ _ _ _ _ => (ed_joinM ed_str (ed_v rfl (by walk_at "vis") rfl rfl) h99 rfl rfl rfl)) h) (by decide) (blkOk_by rfl) nd rfl (fun _ => rfl)) h101 rfl rfl rfl) ?_ nd rfl (by walk_at "loc") rfl (by walk_at "loc")
              refine sds_eq (ρ1 := ⟨1, [some (.d a0), some (.loc 1), some (.d d4), some (.d t13), some (.d (.lst t114)), some (.d t119), some (.d t35), some (.d t40), some (.d t42), some (.d t44), none, none, none, none, none, none], [some (.tb (tabA K (He.ga K "law")) (lamQ "law")), some (.lst o45), none]⟩) ?_ rfl
              replace h := bnd h
              obtain ⟨t120, h102, h⟩ := h
              replace h := bnd h
              obtain ⟨t122, h104, h⟩ := h
              refine sds_set 10 (ed_ifM (td_neM hu (ed_v rfl (by walk_at "vis") rfl rfl) ed_str h102 rfl) h104 (fun h => by replace h := bnd h; obtain ⟨t121, h103, h⟩ := h; exact ED.sm (A := none) h (ed_call cg_law_parsed (ad_cons (ed_v rfl (.inl rfl) rfl rfl) ad_nil rfl) allD1 ⟨_, rfl, rfl, rfl, _, rfl, h103⟩ rfl rfl rfl rfl)) (fun h => by exact ED.sm (A := none) h (ed_tup ad_nil AllD.nil (by rw [sizeLine_eq]; exact Nat.le_of_ble_eq_true rfl)))) ?_ nd rfl (.inl rfl) rfl (.inl rfl)
              refine sds_eq (ρ1 := ⟨1, [some (.d a0), some (.loc 1), some (.d d4), some (.d t13), some (.d (.lst t114)), some (.d t119), some (.d t35), some (.d t40), some (.d t42), some (.d t44), some (.d t122), none, none, none, none, none], [some (.tb (tabA K (He.ga K "law")) (lamQ "law")), some (.lst o45), none]⟩) ?_ rfl
              replace h := bnd h
              obtain ⟨⟨t127, _u⟩, h109, h⟩ := h
              replace h := bnd h
              obtain ⟨t128, h110, h⟩ := h
              refine sds_ifM (td_neM hu (show ED _ (⟨1, [some (.d a0), some (.loc 1), some (.d d4), some (.d t13), some (.d (.lst t114)), some (.d t119), some (.d t35), some (.d t40), some (.d t42), some (.d t44), some (.d t122), none, none, none, none, none], [some (.tb (tabA K (He.ga K "law")) (lamQ "law")), some (.lst o45), none]⟩) _ (.d t127) (⟨1, [some (.d a0), some (.loc 1), some (.d d4), some (.d t13), some (.d (.lst t114)), some (.d t119), some (.d t35), some (.d t40), some (.d t42), some (.d t44), some (.d t122), none, none, none, none, none], [some (.tb (tabA K (He.ga K "law")) (lamQ "law")), some (.lst o45), none]⟩) from by
                                                            rcases tellM_or h109 with ⟨xn, hx, hs⟩ | hm
                                                            · obtain ⟨hxx, ex_⟩ := map_x hx
                                                              clear hx
                                                              dsimp only at hxx ex_
                                                              cases ex_
                                                              exact ED.to (told_X (k := 6) (xx := xn.xv (He.ga K)) (TD_law_told T rfl) (TY_law_told T) (hr.mono (by decide)) (ed_lam0 (i := 15) (n := 0) rfl TB rfl (fun ok => LamS3.has (lamS3_by rfl) ok) rfl) (lamS3_by rfl) (.none fun _ _ _ _ _ _ => rfl) (T.ems _ (su_in_law_told hs)) (fun E_ A_ o_ s_ H_ f_ c_ hr => by
                                                                have cg_parse_row := CG_parse_row (P := P) (w := w) (base := base) T hr (by decide)
                                                                have xg_parse_row := XG_parse_row (P := P) (w := w) (base := base) T hr (by decide)
                                                                have cp_Row_stones := CP_Row_stones (P := P) (w := w) (base := base) T hr (by decide)
                                                                replace h := hxx
                                                                exact EX.to (ex_attr (ex_call lam_lets xg_parse_row (ad_cons (ed_v rfl (by walk_at "vis") rfl rfl) ad_nil rfl) allD1 ⟨_, rfl, rfl, rfl, _, rfl, h⟩ rfl rfl rfl rfl) rfl) rfl) (su_law_told T hs)) rfl rfl
                                                            · replace h := hm
                                                              replace h := bnd h
                                                              obtain ⟨t125, h107, h⟩ := h
                                                              replace h := bnd h
                                                              obtain ⟨t126, h108, h⟩ := h
                                                              cases h
                                                              exact ED.to (told_N (k := 6) (TD_law_told T rfl) (TY_law_told T) (hr.mono (by decide)) (ed_lam0 (i := 15) (n := 0) rfl TB rfl (fun ok => LamS3.has (lamS3_by rfl) ok) rfl) (lamS3_by rfl) (.none fun _ _ _ _ _ _ => rfl) (fun E_ A_ o_ s_ H_ f_ c_ hr =>
                                                                have cg_parse_row := CG_parse_row (P := P) (w := w) (base := base) T hr (by decide)
                                                                have cp_Row_stones := CP_Row_stones (P := P) (w := w) (base := base) T hr (by decide)
                                                                (ed_propM cp_Row_stones (ed_call cg_parse_row (ad_cons (ed_v rfl (by walk_at "vis") rfl rfl) ad_nil rfl) allD1 ⟨_, rfl, rfl, rfl, _, rfl, h107⟩ rfl rfl rfl rfl) ⟨_, rfl, rfl, rfl, _, rfl, h108⟩))) rfl rfl) (ed_v rfl (.inl rfl) rfl rfl) h110 rfl) h (fun h => ?_) (fun h => ?_)
              · cases h
                exact sds_ret ed_bl ⟨_, rfl, ⟨rfl, rfl⟩⟩
              · refine sds_nil ?_
                cases h
                exact sds_nil ⟨_, rfl, ⟨rfl, (wkK (wkK (wkF (wkF (wkF (wkF (wkF (wkF (wkF (wkF (wkF (wkF (wkF (wkF (wkF (wkF wk0)))))))))))))))), _, rfl⟩⟩
            · replace h := bnd h
              obtain ⟨t129, h111, h⟩ := h
              replace h := bnd h
              obtain ⟨t130, h112, h⟩ := h
              replace h := bnd h
              obtain ⟨⟨t131, o132⟩, h113, h⟩ := h
              replace h := bnd h
              obtain ⟨t133, h114, h⟩ := h
              replace h := bnd h
              obtain ⟨t134, h115, h⟩ := h
              replace h := bnd h
              obtain ⟨t135, h116, h⟩ := h
              replace h := bnd h
              obtain ⟨t136, h117, h⟩ := h
              replace h := bnd h
              obtain ⟨t137, h118, h⟩ := h
              refine sds_set 4 (ed_addS (ed_addS (ed_sliceS (ED.fzL (ed_v rfl (.inl rfl) rfl rfl) rfl (Nat.le_of_ble_eq_true rfl) rfl) pd_none (pd_someM (ed_v rfl (.inl rfl) rfl rfl) h111) h112) (ed_lst (ad_cons (ed_bty' (cb_listM h114) (ad_cons (ed_callL (ns := [1]) cg_law_pick (ad_cons (ed_v rfl (.inl rfl) rfl rfl) (ad_cons (ed_v rfl (.inl rfl) rfl rfl) ad_nil rfl) rfl) (.cons (.loc rfl) (.cons (.d _) .nil)) (Lend.one rfl trivial) ⟨_, _, _, rfl, rfl, rfl, _, rfl, h113⟩ rfl rfl rfl rfl rfl) ad_nil rfl) f_list boot_list rfl (by decide) rfl rfl rfl) ad_nil rfl) allD1 (by rw [sizeLine_eq]; exact Nat.le_of_ble_eq_true rfl)) h115) (ed_sliceS (ed_v rfl (.inl rfl) rfl rfl) (pd_someM (ed_v rfl (.inl rfl) rfl rfl) h116) pd_none h117) h118) ?_ nd rfl (.inl rfl) rfl (.inl rfl)
              refine sds_eq (ρ1 := ⟨1, [some (.d a0), some (.loc 1), some (.d d4), some (.d t13), some (.d t137), some (.d (.str t26)), some (.d t35), some (.d t40), some (.d t42), some (.d t44), none, none, none, none, none, none], [some (.tb (tabA K (He.ga K "law")) (lamQ "law")), some (.lst o132), none]⟩) ?_ rfl
              refine sds_nil ?_
              refine sds_nil ?_
              refine sds_nil ?_
              replace h := bnd h
              obtain ⟨t138, h119, h⟩ := h
              replace h := bnd h
              obtain ⟨t142, h122, h⟩ := h
              refine sds_lcC 4 (own := [("_law_line", 15)]) (it_seqX (ed_v rfl (.inl rfl) rfl rfl) h119) h122 (fun d139 o h => by replace h := bnd h; obtain ⟨t140, h120, h⟩ := h; replace h := bnd h; obtain ⟨t141, h121, h⟩ := h; exact lcP0 (tg_blk 15 nd rfl rfl) (fun _ _ _ _ _ => (ed_ifM (td_neM hu (ed_v rfl (by walk_at "vis") rfl rfl) (ed_lst ad_nil AllD.nil (by rw [sizeLine_eq]; exact Nat.le_of_ble_eq_true rfl)) h120 rfl) h121 (fun h => by exact ED.sm (A := none) h (ed_v rfl (by walk_at "vis") rfl rfl)) (fun h => by exact ED.sm (A := none) h (ed_lst (ad_cons ed_str ad_nil rfl) allD1 (by rw [sizeLine_eq]; exact Nat.le_of_ble_eq_true rfl))))) h) ?_ (by decide) (blkOk_by rfl) nd rfl rfl rfl rfl (fun _ => rfl)
              refine sds_eq (ρ1 := ⟨1, [some (.d a0), some (.loc 1), some (.d d4), some (.d t13), some (.d (.lst t142)), some (.d (.str t26)), some (.d t35), some (.d t40), some (.d t42), some (.d t44), none, none, none, none, none, none], [some (.tb (tabA K (He.ga K "law")) (lamQ "law")), some (.lst o132), none]⟩) ?_ rfl
              replace h := bnd h
              obtain ⟨t143, h123, h⟩ := h
              replace h := bnd h
              obtain ⟨t146, h125, h⟩ := h
              replace h := bnd h
              obtain ⟨t147, h126, h⟩ := h
              refine sds_set 5 (ed_joinM ed_str (ed_lcC (own := [("_law_line", 15)]) (it_seqX (ed_v rfl (.inl rfl) rfl rfl) h123) h125 (fun d144 o h => by replace h := bnd h; obtain ⟨t145, h124, h⟩ := h; exact lcP0 (tg_blk 15 nd rfl rfl) (fun _ _ _ _ _ => (ed_joinM ed_str (ed_v rfl (by walk_at "vis") rfl rfl) h124 rfl rfl rfl)) h) (by decide) (blkOk_by rfl) nd rfl (fun _ => rfl)) h126 rfl rfl rfl) ?_ nd rfl (by walk_at "loc") rfl (by walk_at "loc")
              refine sds_eq (ρ1 := ⟨1, [some (.d a0), some (.loc 1), some (.d d4), some (.d t13), some (.d (.lst t142)), some (.d t147), some (.d t35), some (.d t40), some (.d t42), some (.d t44), none, none, none, none, none, none], [some (.tb (tabA K (He.ga K "law")) (lamQ "law")), some (.lst o132), none]⟩) ?_ rfl
              replace h := bnd h
              obtain ⟨t148, h127, h⟩ := h
              replace h := bnd h
              obtain ⟨t150, h129, h⟩ := h
              refine sds_set 10 (ed_ifM (td_neM hu (ed_v rfl (by walk_at "vis") rfl rfl) ed_str h127 rfl) h129 (fun h => by replace h := bnd h; obtain ⟨t149, h128, h⟩ := h; exact ED.sm (A := none) h (ed_call cg_law_parsed (ad_cons (ed_v rfl (.inl rfl) rfl rfl) ad_nil rfl) allD1 ⟨_, rfl, rfl, rfl, _, rfl, h128⟩ rfl rfl rfl rfl)) (fun h => by exact ED.sm (A := none) h (ed_tup ad_nil AllD.nil (by rw [sizeLine_eq]; exact Nat.le_of_ble_eq_true rfl)))) ?_ nd rfl (.inl rfl) rfl (.inl rfl)
              refine sds_eq (ρ1 := ⟨1, [some (.d a0), some (.loc 1), some (.d d4), some (.d t13), some (.d (.lst t142)), some (.d t147), some (.d t35), some (.d t40), some (.d t42), some (.d t44), some (.d t150), none, none, none, none, none], [some (.tb (tabA K (He.ga K "law")) (lamQ "law")), some (.lst o132), none]⟩) ?_ rfl
              replace h := bnd h
              obtain ⟨⟨t155, _u⟩, h134, h⟩ := h
              replace h := bnd h
              obtain ⟨t156, h135, h⟩ := h
              refine sds_ifM (td_neM hu (show ED _ (⟨1, [some (.d a0), some (.loc 1), some (.d d4), some (.d t13), some (.d (.lst t142)), some (.d t147), some (.d t35), some (.d t40), some (.d t42), some (.d t44), some (.d t150), none, none, none, none, none], [some (.tb (tabA K (He.ga K "law")) (lamQ "law")), some (.lst o132), none]⟩) _ (.d t155) (⟨1, [some (.d a0), some (.loc 1), some (.d d4), some (.d t13), some (.d (.lst t142)), some (.d t147), some (.d t35), some (.d t40), some (.d t42), some (.d t44), some (.d t150), none, none, none, none, none], [some (.tb (tabA K (He.ga K "law")) (lamQ "law")), some (.lst o132), none]⟩) from by
                                                            rcases tellM_or h134 with ⟨xn, hx, hs⟩ | hm
                                                            · obtain ⟨hxx, ex_⟩ := map_x hx
                                                              clear hx
                                                              dsimp only at hxx ex_
                                                              cases ex_
                                                              exact ED.to (told_X (k := 6) (xx := xn.xv (He.ga K)) (TD_law_told T rfl) (TY_law_told T) (hr.mono (by decide)) (ed_lam0 (i := 16) (n := 0) rfl TB rfl (fun ok => LamS3.has (lamS3_by rfl) ok) rfl) (lamS3_by rfl) (.none fun _ _ _ _ _ _ => rfl) (T.ems _ (su_in_law_told hs)) (fun E_ A_ o_ s_ H_ f_ c_ hr => by
                                                                have cg_parse_row := CG_parse_row (P := P) (w := w) (base := base) T hr (by decide)
                                                                have xg_parse_row := XG_parse_row (P := P) (w := w) (base := base) T hr (by decide)
                                                                have cp_Row_stones := CP_Row_stones (P := P) (w := w) (base := base) T hr (by decide)
                                                                replace h := hxx
                                                                exact EX.to (ex_attr (ex_call lam_lets xg_parse_row (ad_cons (ed_v rfl (by walk_at "vis") rfl rfl) ad_nil rfl) allD1 ⟨_, rfl, rfl, rfl, _, rfl, h⟩ rfl rfl rfl rfl) rfl) rfl) (su_law_told T hs)) rfl rfl
                                                            · replace h := hm
                                                              replace h := bnd h
                                                              obtain ⟨t153, h132, h⟩ := h
                                                              replace h := bnd h
                                                              obtain ⟨t154, h133, h⟩ := h
                                                              cases h
                                                              exact ED.to (told_N (k := 6) (TD_law_told T rfl) (TY_law_told T) (hr.mono (by decide)) (ed_lam0 (i := 16) (n := 0) rfl TB rfl (fun ok => LamS3.has (lamS3_by rfl) ok) rfl) (lamS3_by rfl) (.none fun _ _ _ _ _ _ => rfl) (fun E_ A_ o_ s_ H_ f_ c_ hr =>
                                                                have cg_parse_row := CG_parse_row (P := P) (w := w) (base := base) T hr (by decide)
                                                                have cp_Row_stones := CP_Row_stones (P := P) (w := w) (base := base) T hr (by decide)
                                                                (ed_propM cp_Row_stones (ed_call cg_parse_row (ad_cons (ed_v rfl (by walk_at "vis") rfl rfl) ad_nil rfl) allD1 ⟨_, rfl, rfl, rfl, _, rfl, h132⟩ rfl rfl rfl rfl) ⟨_, rfl, rfl, rfl, _, rfl, h133⟩))) rfl rfl) (ed_v rfl (.inl rfl) rfl rfl) h135 rfl) h (fun h => ?_) (fun h => ?_)
              · cases h
                exact sds_ret ed_bl ⟨_, rfl, ⟨rfl, rfl⟩⟩
              · refine sds_nil ?_
                cases h
                exact sds_nil ⟨_, rfl, ⟨rfl, (wkK (wkK (wkF (wkF (wkF (wkF (wkF (wkF (wkF (wkF (wkF (wkF (wkF (wkF (wkF (wkF wk0)))))))))))))))), _, rfl⟩⟩
    · rintro l157 rfl
      try dsimp only at h
      refine sds_eq (ρ1 := ⟨1, [some (.d a0), some (.loc 1), none, none, none, none, none, none, none, none, none, none, none, none, none, none], [some (.tb (tabA K (He.ga K "law")) (lamQ "law")), some (.lst l157)]⟩) ?_ rfl
      replace h := bnd h
      obtain ⟨⟨t158, o159⟩, h137, h⟩ := h
      replace h := bnd h
      obtain ⟨t160, h138, h⟩ := h
      replace h := bnd h
      obtain ⟨t161, h139, h⟩ := h
      replace h := bnd h
      obtain ⟨t166, h143, h⟩ := h
      replace h := bnd h
      obtain ⟨t167, h144, h⟩ := h
      refine sds_set 11 (ed_joinM ed_str (ed_lcC (own := [("_law_k", 6)]) (it_range1M (ed_addS ed_int (ed_callL (ns := [1]) cg_law_next (ad_cons (ed_v rfl (.inl rfl) rfl rfl) (ad_cons ed_int ad_nil rfl) rfl) (.cons (.loc rfl) (.cons (.d _) .nil)) (Lend.one rfl trivial) ⟨_, _, _, rfl, rfl, rfl, _, rfl, h137⟩ rfl rfl rfl rfl rfl) h138) h139 rfl f_range rfl) h143 (fun d162 o h => by replace h := bnd h; obtain ⟨t163, h140, h⟩ := h; replace h := bnd h; obtain ⟨t164, h141, h⟩ := h; replace h := bnd h; obtain ⟨t165, h142, h⟩ := h; exact lcP0 (tg_blk 6 nd rfl rfl) (fun _ _ _ _ _ => (ed_addS (ed_addS ed_str (ed_bty' (cb_strI h140) (ad_cons (ed_v rfl (by walk_at "vis") rfl rfl) ad_nil rfl) f_str boot_str rfl (by decide) rfl rfl rfl) h141) ed_str h142)) h) (by decide) (blkOk_by rfl) nd rfl (fun _ => rfl)) h144 rfl rfl rfl) ?_ nd rfl (by walk_at "loc") rfl (by walk_at "loc")
      refine sds_eq (ρ1 := ⟨1, [some (.d a0), some (.loc 1), none, none, none, none, none, none, none, none, none, some (.d t167), none, none, none, none], [some (.tb (tabA K (He.ga K "law")) (lamQ "law")), some (.lst o159)]⟩) ?_ rfl
      replace h := bnd h
      obtain ⟨⟨t174, _u⟩, h151, h⟩ := h
      refine sds_set 12 (show ED _ (⟨1, [some (.d a0), some (.loc 1), none, none, none, none, none, none, none, none, none, some (.d t167), none, none, none, none], [some (.tb (tabA K (He.ga K "law")) (lamQ "law")), some (.lst o159)]⟩) _ (.d t174) (⟨1, [some (.d a0), some (.loc 1), none, none, none, none, none, none, none, none, none, some (.d t167), none, none, none, none], [some (.tb (tabA K (He.ga K "law")) (lamQ "law")), some (.lst o159)]⟩) from by
                                                            rcases tellM_or h151 with ⟨xn, hx, hs⟩ | hm
                                                            · obtain ⟨hxx, ex_⟩ := map_x hx
                                                              clear hx
                                                              dsimp only at hxx ex_
                                                              cases ex_
                                                              exact ED.to (told_X (k := 6) (xx := xn.xv (He.ga K)) (TD_law_told T rfl) (TY_law_told T) (hr.mono (by decide)) (ed_lam1 (i := 17) (n := 0) rfl TB rfl (fun ok => LamS3.has (lamS3_by rfl) ok) rfl rfl) (lamS3_by rfl) (.one (a := "_law_a") (fun _ _ _ _ _ _ _ => ⟨_, rfl, fun _ => rfl⟩) rfl) (T.ems _ (su_in_law_told hs)) (fun E_ A_ o_ s_ H_ f_ c_ hr => by
                                                                have f_len := T.f_len
                                                                have cg_parse_row := CG_parse_row (P := P) (w := w) (base := base) T hr (by decide)
                                                                have xg_parse_row := XG_parse_row (P := P) (w := w) (base := base) T hr (by decide)
                                                                have cs_Row_len := CS_Row_len (P := P) (w := w) (base := base) T hr (by decide)
                                                                replace h := hxx
                                                                exact EX.to (ex_blt (ax_here (ex_call lam_lets xg_parse_row (ad_cons (ed_v rfl (by walk_at "vis") rfl rfl) ad_nil rfl) allD1 ⟨_, rfl, rfl, rfl, _, rfl, h⟩ rfl rfl rfl rfl) rfl) f_len boot_len rfl (by decide) rfl rfl rfl) rfl) (su_law_told T hs)) rfl rfl
                                                            · replace h := hm
                                                              replace h := bnd h
                                                              obtain ⟨t171, h148, h⟩ := h
                                                              replace h := bnd h
                                                              obtain ⟨t172, h149, h⟩ := h
                                                              replace h := bnd h
                                                              obtain ⟨t173, h150, h⟩ := h
                                                              cases h
                                                              exact ED.to (told_N (k := 6) (TD_law_told T rfl) (TY_law_told T) (hr.mono (by decide)) (ed_lam1 (i := 17) (n := 0) rfl TB rfl (fun ok => LamS3.has (lamS3_by rfl) ok) rfl rfl) (lamS3_by rfl) (.one (a := "_law_a") (fun _ _ _ _ _ _ _ => ⟨_, rfl, fun _ => rfl⟩) rfl) (fun E_ A_ o_ s_ H_ f_ c_ hr =>
                                                                have cg_parse_row := CG_parse_row (P := P) (w := w) (base := base) T hr (by decide)
                                                                have cs_Row_len := CS_Row_len (P := P) (w := w) (base := base) T hr (by decide)
                                                                have f_len := T.f_len
                                                                (ed_blt (cb_lenK cs_Row_len ⟨_, rfl, rfl, rfl, _, rfl, h149⟩ h150) (ad_cons (ed_call cg_parse_row (ad_cons (ed_v rfl (by walk_at "vis") rfl rfl) ad_nil rfl) allD1 ⟨_, rfl, rfl, rfl, _, rfl, h148⟩ rfl rfl rfl rfl) ad_nil rfl) f_len boot_len rfl (by decide) rfl rfl rfl))) rfl rfl) ?_ nd rfl (.inl rfl) rfl (.inl rfl)
      refine sds_eq (ρ1 := ⟨1, [some (.d a0), some (.loc 1), none, none, none, none, none, none, none, none, none, some (.d t167), some (.d t174), none, none, none], [some (.tb (tabA K (He.ga K "law")) (lamQ "law")), some (.lst o159)]⟩) ?_ rfl
      replace h := bnd h
      obtain ⟨t175, h152, h⟩ := h
      replace h := bnd h
      obtain ⟨t183, h160, h⟩ := h
      cases h
      exact sds_ret (ed_andM (ed_inTP hu65 (ed_v rfl (.inl rfl) rfl rfl) (ed_tup (ad_cons ed_int (ad_cons (ed_tup (ad_cons ed_str (ad_cons ed_str (ad_cons (ed_lst (ad_cons ed_int ad_nil rfl) allD1 (by rw [sizeLine_eq]; exact Nat.le_of_ble_eq_true rfl)) ad_nil rfl) rfl) rfl) allD3 (by rw [sizeLine_eq]; exact Nat.le_of_ble_eq_true rfl)) ad_nil rfl) rfl) allD2 (by rw [sizeLine_eq]; exact Nat.le_of_ble_eq_true rfl)) h152 rfl) h160 (fun h => by replace h := bnd h; obtain ⟨t176, h153, h⟩ := h; replace h := bnd h; obtain ⟨t177, h154, h⟩ := h; replace h := bnd h; obtain ⟨t178, h155, h⟩ := h; replace h := bnd h; obtain ⟨t182, h159, h⟩ := h; exact ED.smB h (ed_andM (ed_eqM hu (ed_call cg_format_row (ad_cons (ed_makeR0 mk_Row_init h153 rfl rfl) ad_nil rfl) allD1 ⟨_, rfl, rfl, rfl, _, rfl, h154⟩ rfl rfl rfl rfl) ed_str h155 rfl) h159 (fun h => by replace h := bnd h; obtain ⟨t179, h156, h⟩ := h; replace h := bnd h; obtain ⟨t180, h157, h⟩ := h; replace h := bnd h; obtain ⟨t181, h158, h⟩ := h; exact ED.smB h (ed_one (ed_eqM hu (ed_propM cp_Row_stones (ed_call cg_parse_row (ad_cons ed_str ad_nil rfl) allD1 ⟨_, rfl, rfl, rfl, _, rfl, h156⟩ rfl rfl rfl rfl) ⟨_, rfl, rfl, rfl, _, rfl, h157⟩) (ed_tup ad_nil AllD.nil (by rw [sizeLine_eq]; exact Nat.le_of_ble_eq_true rfl)) h158 rfl)))))) ⟨rfl, rfl⟩
    · rintro t d_ ow_ rfl hrt
      try dsimp only at h
      cases h
      exact ⟨hrt.1, hrt.2⟩
end
/-! ### stones, rows, runs (plain) -/
abbrev Stone := Int × Int
def stD (s : Stone) : D := .tup [.int s.1, .int s.2]
def okSt (least : Int) : List Stone → Prop
  | [] => True
  | s :: r => least ≤ s.1 ∧ s.1 ≤ 1000000000 ∧ 1 ≤ s.2 ∧ s.2 ≤ 1000000000 ∧ okSt (s.1 + 1) r
def Valid (l : List Stone) : Prop := l.length ≤ 40 ∧ okSt 0 l
theorem okSt_iff : ∀ {l : List Stone} {a : Int}, okSt a l ↔ l.Pairwise (fun s t => s.1 < t.1) ∧ ∀ s ∈ l, a ≤ s.1 ∧ s.1 ≤ 1000000000 ∧ 1 ≤ s.2 ∧ s.2 ≤ 1000000000
  | [], a => by simp [okSt]
  | s :: r, a => by
    have ih := okSt_iff (l := r) (a := s.1 + 1)
    simp only [okSt, ih, List.pairwise_cons, List.mem_cons, forall_eq_or_imp]
    constructor
    · rintro ⟨h1, h2, h3, h4, h5, h6⟩
      refine ⟨⟨fun t ht => by have := (h6 t ht).1; omega, h5⟩, ⟨h1, h2, h3, h4⟩, fun t ht => ?_⟩
      have := h6 t ht; omega
    · rintro ⟨⟨h1, h2⟩, ⟨h3, h4, h5, h6⟩, h7⟩
      refine ⟨h3, h4, h5, h6, h2, fun t ht => ?_⟩
      have := h1 t ht; have := h7 t ht; omega
theorem okSt_sub {l l' : List Stone} {a : Int} (h : okSt a l) (hs : l'.Sublist l) : okSt a l' := by
  rw [okSt_iff] at h ⊢
  exact ⟨h.1.sublist hs, fun s hs' => h.2 s (hs.subset hs')⟩
theorem Valid.sub {l l' : List Stone} (h : Valid l) (hs : l'.Sublist l) : Valid l' := ⟨Nat.le_trans hs.length_le h.1, okSt_sub h.2 hs⟩
def goR : List Stone → Int → Nat → Nat
  | [], _, e => e
  | s :: r, reach, e => if s.1 ≤ reach then goR r (max reach (s.1 + s.2)) (e + 1) else e
def rightEnd (l : List Stone) (i : Nat) : Nat := goR (l.drop (i + 1)) ((l.getD i (0, 0)).1 + (l.getD i (0, 0)).2) i
theorem goR_step {l : List Stone} {e : Nat} {reach : Int} (h : e + 1 < l.length) (hp : (l.getD (e + 1) (0, 0)).1 ≤ reach) : goR (l.drop (e + 1)) reach e = goR (l.drop (e + 1 + 1)) (max reach ((l.getD (e + 1) (0, 0)).1 + (l.getD (e + 1) (0, 0)).2)) (e + 1) := by
  rw [List.drop_eq_getElem_cons h]
  have e1 : l.getD (e + 1) (0, 0) = l[e + 1] := by simp [h]
  rw [e1] at hp ⊢
  show (if l[e + 1].1 ≤ reach then _ else _) = _
  rw [if_pos hp]
theorem goR_stop {l : List Stone} {e : Nat} {reach : Int} (h : ¬ (e + 1 < l.length ∧ (l.getD (e + 1) (0, 0)).1 ≤ reach)) : goR (l.drop (e + 1)) reach e = e := by
  by_cases h1 : e + 1 < l.length
  · rw [List.drop_eq_getElem_cons h1]
    have e1 : l.getD (e + 1) (0, 0) = l[e + 1] := by simp [h1]
    rw [e1] at h
    show (if l[e + 1].1 ≤ reach then _ else _) = _
    rw [if_neg (fun z => h ⟨h1, z⟩)]
  · rw [List.drop_eq_nil_of_le (by omega)]; rfl
theorem goR_le : ∀ (r : List Stone) (reach : Int) (e : Nat), goR r reach e ≤ e + r.length
  | [], _, e => by simp [goR]
  | s :: r, reach, e => by
    unfold goR
    split
    · have := goR_le r (max reach (s.1 + s.2)) (e + 1); simp; omega
    · simp
theorem goR_ge : ∀ (r : List Stone) (reach : Int) (e : Nat), e ≤ goR r reach e
  | [], _, e => by simp [goR]
  | s :: r, reach, e => by
    unfold goR
    split
    · have := goR_ge r (max reach (s.1 + s.2)) (e + 1); omega
    · omega
theorem rightEnd_lt {l : List Stone} {i : Nat} (h : i < l.length) : rightEnd l i < l.length := by
  have := goR_le (l.drop (i + 1)) ((l.getD i (0, 0)).1 + (l.getD i (0, 0)).2) i
  unfold rightEnd
  rw [List.length_drop] at this
  omega
theorem rightEnd_ge {l : List Stone} {i : Nat} : i ≤ rightEnd l i := goR_ge _ _ _
theorem rngD_nat (a n : Nat) : rngD (a : Int) n = (List.range' a n).map (fun k => D.int (k : Nat)) := by
  unfold rngD
  rw [List.range'_eq_map_range, List.map_map]
  apply List.map_congr_left
  intro k _
  show D.int ((a : Int) + (k : Int)) = D.int ((a + k : Nat) : Int)
  rw [Int.natCast_add]
def plc (l : List Stone) (k : Nat) : Int := (l.getD k (0, 0)).1
def edl (l : List Stone) (k : Nat) : Int := (l.getD k (0, 0)).1 + (l.getD k (0, 0)).2
theorem goR_char {l : List Stone} : ∀ (m e : Nat) (reach : Int) (j : Nat), l.length - e ≤ m → e ≤ j → j < l.length → (j ≤ goR (l.drop (e + 1)) reach e ↔ ∀ q, e < q → q ≤ j → (plc l q ≤ reach ∨ ∃ k, e < k ∧ k < q ∧ plc l q ≤ edl l k))
  | 0, e, reach, j, hm, h1, h2 => by omega
  | m + 1, e, reach, j, hm, h1, h2 => by
    by_cases hj : j = e
    · subst hj
      constructor
      · intro _ q a b; omega
      · intro _; exact goR_ge _ _ _
    · by_cases hp : plc l (e + 1) ≤ reach
      · rw [goR_step (by omega) hp, goR_char m (e + 1) _ j (by omega) (by omega) h2]
        constructor
        · intro h q a b
          by_cases hq : q = e + 1
          · subst hq; exact .inl hp
          · rcases h q (by omega) b with h3 | ⟨k, h3, h4, h5⟩
            · by_cases h6 : plc l q ≤ reach
              · exact .inl h6
              · refine .inr ⟨e + 1, by omega, by omega, ?_⟩
                have h7 : plc l q ≤ max reach (edl l (e + 1)) := h3
                omega
            · exact .inr ⟨k, by omega, h4, h5⟩
        · intro h q a b
          rcases h q (by omega) b with h3 | ⟨k, h3, h4, h5⟩
          · left
            have : reach ≤ max reach ((l.getD (e + 1) (0, 0)).1 + (l.getD (e + 1) (0, 0)).2) := Int.le_max_left _ _
            omega
          · by_cases hk : k = e + 1
            · subst hk
              left
              have : edl l (e + 1) ≤ max reach ((l.getD (e + 1) (0, 0)).1 + (l.getD (e + 1) (0, 0)).2) := Int.le_max_right _ _
              omega
            · exact .inr ⟨k, by omega, h4, h5⟩
      · rw [goR_stop (fun z => hp z.2)]
        constructor
        · intro h; omega
        · intro h
          rcases h (e + 1) (by omega) (by omega) with h3 | ⟨k, h3, h4, _⟩
          · exact absurd h3 hp
          · omega
theorem rightEnd_char {l : List Stone} {i j : Nat} (h1 : i ≤ j) (h2 : j < l.length) : j ≤ rightEnd l i ↔ ∀ q, i < q → q ≤ j → ∃ k, i ≤ k ∧ k < q ∧ plc l q ≤ edl l k := by
  unfold rightEnd
  rw [goR_char (l.length - i) i _ j (Nat.le_refl _) h1 h2]
  constructor
  · intro h q a b
    rcases h q a b with h3 | ⟨k, h3, h4, h5⟩
    · exact ⟨i, Nat.le_refl _, a, h3⟩
    · exact ⟨k, by omega, h4, h5⟩
  · intro h q a b
    obtain ⟨k, h3, h4, h5⟩ := h q a b
    by_cases hk : k = i
    · subst hk; exact .inl h5
    · exact .inr ⟨k, by omega, h4, h5⟩
/-! ### the mirrors' operations at data that are known -/
@[simp] theorem dAddX_ii (i j : Int) : dAddX (.int i) (.int j) = some (.int (i + j)) := rfl
@[simp] theorem dAddI_ii (i j : Int) : dAddI (.int i) (.int j) = some (.int (i + j)) := rfl
@[simp] theorem dSub_ii (i j : Int) : dSub (.int i) (.int j) = some (.int (i - j)) := rfl
@[simp] theorem dLt_ii (i j : Int) : dLt (.int i) (.int j) = some (decide (i < j)) := rfl
@[simp] theorem dLe_ii (i j : Int) : dLe (.int i) (.int j) = some (decide (i ≤ j)) := rfl
@[simp] theorem dGt_ii (i j : Int) : dGt (.int i) (.int j) = some (decide (j < i)) := rfl
@[simp] theorem dGe_ii (i j : Int) : dGe (.int i) (.int j) = some (decide (j ≤ i)) := rfl
@[simp] theorem dMax_ii (i j : Int) : dMax (.int i) (.int j) = some (.int (max i j)) := rfl
@[simp] theorem dMin_ii (i j : Int) : dMin (.int i) (.int j) = some (.int (min i j)) := rfl
@[simp] theorem dInt_i (i : Int) : dInt (.int i) = some (.int i) := rfl
@[simp] theorem dInt_b (b : Bool) : dInt (.bl b) = some (.int (if b then 1 else 0)) := rfl
@[simp] theorem dB_b (b : Bool) : dB (.bl b) = some b := rfl
@[simp] theorem dNeg_i (i : Int) : dNeg (.int i) = some (.int (-i)) := rfl
@[simp] theorem decInt_i (i : Int) : decInt (.int i) = some i := rfl
@[simp] theorem dUn2_t (a b : D) : dUn2 (.tup [a, b]) = some (a, b) := rfl
@[simp] theorem dUn3_t (a b c : D) : dUn3 (.tup [a, b, c]) = some (a, b, c) := rfl
@[simp] theorem dSeq_l (ds : List D) : dSeq (.lst ds) = some ds := rfl
@[simp] theorem dSeq_t (ds : List D) : dSeq (.tup ds) = some ds := rfl
@[simp] theorem seq_l (ds : List D) : (D.lst ds).seq? = some ds := rfl
@[simp] theorem seq_t (ds : List D) : (D.tup ds).seq? = some ds := rfl
/-- a list or a tuple -/
def sq : D → Option (List D)
  | .lst ds => some ds
  | .tup ds => some ds
  | _ => none
theorem sq_seq {u : D} {ds : List D} (h : sq u = some ds) : u.seq? = some ds := by
  cases u <;> simp [sq] at h <;> subst h <;> rfl
@[simp] theorem dLen_l (ds : List D) : dLen (.lst ds) = some (.int ds.length) := rfl
@[simp] theorem dLen_t (ds : List D) : dLen (.tup ds) = some (.int ds.length) := rfl
@[simp] theorem dRev_l (ds : List D) : dRev (.lst ds) = some (.lst ds.reverse) := rfl
@[simp] theorem dRev_t (ds : List D) : dRev (.tup ds) = some (.tup ds.reverse) := rfl
@[simp] theorem dIx_l (ds : List D) (i : Int) : dIx (.lst ds) (.int i) = atI ds i := rfl
@[simp] theorem dIx_t (ds : List D) (i : Int) : dIx (.tup ds) (.int i) = atI ds i := rfl
@[simp] theorem lIx_i (ds : List D) (i : Int) : lIx ds (.int i) = atI ds i := rfl
theorem atI_get' {ds : List D} {i : Nat} {d : D} (h : ds[i]? = some d) : atI ds (i : Int) = some d := by
  have hlt := (List.getElem?_eq_some_iff.mp h).1
  unfold atI ixN
  rw [if_pos (by omega), if_pos (by omega)]
  simpa using h
@[simp] theorem at0 (a : D) (ds : List D) : atI (a :: ds) 0 = some a := atI_get' (i := 0) rfl
@[simp] theorem at1 (a b : D) (ds : List D) : atI (a :: b :: ds) 1 = some b := atI_get' (i := 1) rfl
@[simp] theorem at2 (a b c : D) (ds : List D) : atI (a :: b :: c :: ds) 2 = some c := atI_get' (i := 2) rfl
@[simp] theorem at3 (a b c d : D) (ds : List D) : atI (a :: b :: c :: d :: ds) 3 = some d := atI_get' (i := 3) rfl
theorem atI_i {l : List Int} {i : Nat} (h : i < l.length) : atI (l.map D.int) (i : Int) = some (.int (l.getD i 0)) := atI_get' (by simp [h])
@[simp] theorem stD_0 (s : Stone) : dIx (stD s) (.int 0) = some (.int s.1) := by unfold stD; simp
@[simp] theorem stD_1 (s : Stone) : dIx (stD s) (.int 1) = some (.int s.2) := by unfold stD; simp
@[simp] theorem stD_un (s : Stone) : dUn2 (stD s) = some (.int s.1, .int s.2) := rfl
theorem dMod_ii {i j : Int} (h : 0 < j) : dMod (.int i) (.int j) = some (.int (i % j)) := if_pos h
theorem dDiv_ii {i j : Int} (h : 0 < j) (h2 : j < 1073741824) : dDiv (.int i) (.int j) = some (.int (i / j)) := if_pos ⟨h, h2⟩
theorem dMul_r {i j : Int} (h : -(2 ^ 64) < j ∧ j < 2 ^ 64) : dMul (.int i) (.int j) = some (.int (i * j)) := if_pos (.inr h)
theorem dMul_l {i j : Int} (h : -(2 ^ 64) < i ∧ i < 2 ^ 64) : dMul (.int i) (.int j) = some (.int (i * j)) := if_pos (.inl h)
theorem dPow_10 {j : Int} (h : 0 ≤ j ∧ j ≤ 1000000) : dPow (.int 10) (.int j) = some (.int (10 ^ j.toNat)) := if_pos ⟨h.1, h.2, by decide⟩
@[simp] theorem pow9 : dPow (.int 10) (.int 9) = some (.int 1000000000) := by rw [dPow_10 (by omega)]; rfl
@[simp] theorem pow18 : dPow (.int 10) (.int 18) = some (.int 1000000000000000000) := by rw [dPow_10 (by omega)]; rfl
theorem dTup_of {ds : List D} (h : ds.length ≤ 1000) : dTup ds = some (.tup ds) := if_pos (by rw [sizeLine_eq]; omega)
theorem lApp_of {ds : List D} {d : D} (h : ds.length ≤ 1000) : lApp ds d = some (ds ++ [d]) := if_pos (by rw [sizeLine_eq]; omega)
theorem dRange1_n {n : Nat} (h : n ≤ 1000000) : dRange1 (.int n) = some ((List.range n).map fun k => D.int (k : Nat)) := by
  unfold dRange1
  dsimp only
  rw [if_pos (by omega)]
  have := rngD_nat 0 n
  simp only [Int.toNat_natCast]
  rw [List.range_eq_range']
  exact congrArg some this
@[simp] theorem dEq_ii (i j : Int) : dEq (.int i) (.int j) = some (decide (i = j)) := by
  unfold dEq
  rw [if_pos (by rfl)]
  rfl
@[simp] theorem dEq_ss (s t : Str) : dEq (.str s) (.str t) = some (decide (s = t)) := by
  unfold dEq
  rw [if_pos (by rfl)]
  rfl
@[simp] theorem dNe_ii (i j : Int) : dNe (.int i) (.int j) = some (!decide (i = j)) := by unfold dNe; simp
open Classical in
theorem dEq_dd {d e : D} (hs : scD d e = false) (h1 : d.ok = true) (h2 : e.ok = true) (h3 : d.dep ≤ 64) (h4 : e.dep ≤ 64) : dEq d e = some (decide (d = e)) := by
  unfold dEq
  rw [if_neg (by rw [hs]; decide), if_pos ⟨h1, h2, h3, h4⟩]
@[simp] theorem isi_int (i : Int) (f : Kd → Bool) : dIsi f (.int i) = some (f .int) := rfl
@[simp] theorem isi_str (i : Str) (f : Kd → Bool) : dIsi f (.str i) = some (f .str) := rfl
@[simp] theorem isi_tup (i : List D) (f : Kd → Bool) : dIsi f (.tup i) = some (f .tup) := rfl
@[simp] theorem isi_lst (i : List D) (f : Kd → Bool) : dIsi f (.lst i) = some (f .lst) := rfl
@[simp] theorem isi_bl (i : Bool) (f : Kd → Bool) : dIsi f (.bl i) = some (f .bl) := rfl
@[simp] theorem isi_non (f : Kd → Bool) : dIsi f .non = some (f .non) := rfl
/-! loops and comprehensions -/
/-- a loop by an invariant over what is left -/
theorem forS_inv {α σ : Type} {f : D → σ → Option σ} {e : α → D} (I : List α → σ → Prop) (h : ∀ x r s, I (x :: r) s → ∃ s', f (e x) s = some s' ∧ I r s') : ∀ (l : List α) (s : σ), I l s → ∃ s', forS f (l.map e) s = some s' ∧ I [] s'
  | [], s, h0 => ⟨s, rfl, h0⟩
  | x :: l, s, h0 => by
    obtain ⟨s1, h1, h2⟩ := h x l s h0
    obtain ⟨s2, h3, h4⟩ := forS_inv I h l s1 h2
    refine ⟨s2, ?_, h4⟩
    show (f (e x) s).bind _ = _
    rw [h1]; exact h3
theorem forF_inv {α σ τ : Type} {f : D → σ → Option (Fl σ τ)} {e : α → D} (I : List α → σ → Prop) (h : ∀ x r s, I (x :: r) s → ∃ s', f (e x) s = some (.nx s') ∧ I r s') : ∀ (l : List α) (s : σ), I l s → ∃ s', forF f (l.map e) s = some (.nx s') ∧ I [] s'
  | [], s, h0 => ⟨s, rfl, h0⟩
  | x :: l, s, h0 => by
    obtain ⟨s1, h1, h2⟩ := h x l s h0
    obtain ⟨s2, h3, h4⟩ := forF_inv I h l s1 h2
    refine ⟨s2, ?_, h4⟩
    show (f (e x) s).bind _ = _
    rw [h1]; exact h3
theorem lcM_map {α : Type} {f : D → Option (Option D)} {e : α → D} (o : α → Option D) : ∀ (l : List α), (∀ x ∈ l, f (e x) = some (o x)) → lcM f (l.map e) = some (l.filterMap o)
  | [], _ => rfl
  | x :: l, h => by
    show (f (e x)).bind _ = _
    rw [h x (by simp)]
    show (lcM f (l.map e)).bind _ = _
    rw [lcM_map o l fun y hy => h y (by simp [hy]), List.filterMap_cons]
    cases o x <;> rfl
theorem lcG_fm {α : Type} {f : D → Option (Option D)} {e : α → D} (o : α → Option D) (l : List α) (hl : l.length ≤ 1000) (h : ∀ x ∈ l, f (e x) = some (o x)) : lcG f (l.map e) = some (l.filterMap o) := by
  unfold lcG
  rw [if_pos (by rw [sizeLine_eq, List.length_map]; omega)]
  exact lcM_map o l h
theorem lcG_map {α : Type} {f : D → Option (Option D)} {e : α → D} (g : α → D) (l : List α) (hl : l.length ≤ 1000) (h : ∀ x ∈ l, f (e x) = some (some (g x))) : lcG f (l.map e) = some (l.map g) := by
  rw [lcG_fm (fun x => some (g x)) l hl h]
  congr 1
  induction l with
  | nil => rfl
  | cons x l ih => simp
theorem lcG_filter {α : Type} {f : D → Option (Option D)} {e : α → D} (p : α → Bool) (l : List α) (hl : l.length ≤ 1000) (h : ∀ x ∈ l, f (e x) = some (if p x = true then some (e x) else none)) : lcG f (l.map e) = some ((l.filter p).map e) := by
  rw [lcG_fm (fun x => if p x = true then some (e x) else none) l hl h]
  congr 1
  clear h hl
  induction l with
  | nil => rfl
  | cons x l ih =>
    rw [List.filterMap_cons, List.filter_cons]
    by_cases q : p x = true
    · simp only [q, if_true, ih, List.map_cons]
    · simp only [q, if_false, ih]; rfl
theorem forS_bind {α σ τ : Type} {f : D → σ → Option σ} {e : α → D} {k : σ → Option τ} {t : τ} {l : List α} {s : σ} (I : List α → σ → Prop) (h0 : I l s) (h : ∀ x r s, I (x :: r) s → ∃ s', f (e x) s = some s' ∧ I r s') (hk : ∀ s, I [] s → k s = some t) : (forS f (l.map e) s).bind k = some t := by
  obtain ⟨s', h1, h2⟩ := forS_inv (f := f) I h l s h0
  rw [h1]; exact hk s' h2
/-! something that holds of what is given -/
def Gv {τ : Type} (x : Option τ) (Q : τ → Prop) : Prop := ∃ t, x = some t ∧ Q t
theorem gv_some {τ : Type} {t : τ} {Q : τ → Prop} (h : Q t) : Gv (some t) Q := ⟨t, rfl, h⟩
theorem gv_bind {α τ : Type} {x : Option α} {a : α} {f : α → Option τ} {Q : τ → Prop} (hx : x = some a) (h : Gv (f a) Q) : Gv (x.bind f) Q := by rw [hx]; exact h
theorem gv_gv {α τ : Type} {x : Option α} {f : α → Option τ} {Q : τ → Prop} {R : α → Prop} (hx : Gv x R) (h : ∀ a, R a → Gv (f a) Q) : Gv (x.bind f) Q := by
  obtain ⟨a, e, r⟩ := hx
  exact gv_bind e (h a r)
theorem gv_cT {τ : Type} {A B : Option τ} {Q : τ → Prop} (h : Gv A Q) : Gv (cond true A B) Q := h
theorem gv_cF {τ : Type} {A B : Option τ} {Q : τ → Prop} (h : Gv B Q) : Gv (cond false A B) Q := h
theorem gv_forS {α σ τ : Type} {f : D → σ → Option σ} {e : α → D} {k : σ → Option τ} {l : List α} {s : σ} {Q : τ → Prop} (I : List α → σ → Prop) (h0 : I l s) (h : ∀ x r s, I (x :: r) s → Gv (f (e x) s) (I r)) (hk : ∀ s, I [] s → Gv (k s) Q) : Gv ((forS f (l.map e) s).bind k) Q := by
  obtain ⟨s', h1, h2⟩ := forS_inv (f := f) I h l s h0
  exact gv_bind h1 (hk s' h2)
theorem gv_forF {α σ τ υ : Type} {f : D → σ → Option (Fl σ υ)} {e : α → D} {k : Fl σ υ → Option τ} {l : List α} {s : σ} {Q : τ → Prop} (I : List α → σ → Prop) (h0 : I l s) (h : ∀ x r s, I (x :: r) s → Gv (f (e x) s) (fun fl => ∃ s', fl = .nx s' ∧ I r s')) (hk : ∀ s, I [] s → Gv (k (.nx s)) Q) : Gv ((forF f (l.map e) s).bind k) Q := by
  obtain ⟨s', h1, h2⟩ := forF_inv (f := f) I (fun x r s hi => by
    obtain ⟨fl, e1, s', e2, e3⟩ := h x r s hi
    subst e2
    exact ⟨s', e1, e3⟩) l s h0
  exact gv_bind h1 (hk s' h2)
/-! lists of indices -/
/-! ### rows.py: what the mirrors give -/
abbrev bD (l : List Stone) : D := .tup (l.map stD)
@[simp] theorem isint_i (i lo hi : Int) : m_is_integer (.int i) (.int lo) (.int hi) = some (.bl (decide (lo ≤ i) && decide (i ≤ hi))) := by
  unfold m_is_integer
  simp [Kd.isInt, Kd.isBool]
theorem dM2_st (s : Stone) : dM2 (stD s) = some (some (.int s.1, .int s.2)) := rfl
theorem isstone_s (s : Stone) (least : Int) : m_is_stone (stD s) (.int least) = some (.bl (decide (least ≤ s.1 ∧ s.1 ≤ 1000000000 ∧ 1 ≤ s.2 ∧ s.2 ≤ 1000000000))) := by
  unfold m_is_stone
  rw [dM2_st]
  unfold stD
  simp only [Option.bind_some, isi_tup, dB_b, isint_i, Kd.isTup, cond_true]
  by_cases h : least ≤ s.1 ∧ s.1 ≤ 1000000000
  · simp [h.1, h.2]
  · have : (decide (least ≤ s.1) && decide (s.1 ≤ 1000000000)) = false := by
      simp only [Bool.and_eq_false_iff, decide_eq_false_iff_not]; omega
    rw [this]
    simp
    omega
theorem enumD_map {l : List Stone} : dEnum (bD l) = some ((l.zipIdx 0).map fun p => D.tup [.int (p.2 : Nat), stD p.1]) := by
  unfold dEnum
  simp only [seq_t, Option.bind_some]
  rw [enumD_zip]
theorem init_v {l : List Stone} (h : Valid l) : m_Row_init (bD l) = some (bD l) := by
  unfold m_Row_init
  rw [enumD_map]
  simp only [Option.bind_some]
  obtain ⟨h1, h2⟩ := h
  have key := forS_inv (f := fun d3 => fun (s2 : D) => (dUn2 d3).bind fun z => match z with | (x4, x5) => (dEq x4 (.int 40)).bind fun t6 => (cond t6 (some true) ((m_is_stone x5 s2).bind fun t7 => (dB t7).bind fun t8 => some (!t8))).bind fun t9 => cond t9 (none) ((dIx x5 (.int 0)).bind fun t10 => (dAddX t10 (.int 1)).bind fun t11 => some t11))
    (e := fun p : Stone × Nat => D.tup [.int (p.2 : Nat), stD p.1]) (fun r s => ∃ least n, s = .int least ∧ ∃ l' : List Stone, r = l'.zipIdx n ∧ n + l'.length ≤ 40 ∧ okSt least l') (by
      rintro ⟨s, k⟩ r st ⟨least, n, rfl, l', e, hn, hok⟩
      cases l' with
      | nil => cases e
      | cons a l' =>
        rw [List.zipIdx_cons] at e
        cases e
        simp only [List.length_cons] at hn
        obtain ⟨o1, o2, o3, o4, o5⟩ := hok
        refine ⟨.int (s.1 + 1), ?_, s.1 + 1, k + 1, rfl, l', rfl, by omega, o5⟩
        have hk : ¬ ((k : Int) = 40) := by omega
        simp [hk, isstone_s, o1, o2, o3, o4]) (l.zipIdx 0) (.int 0) ⟨0, 0, rfl, l, rfl, by omega, h2⟩
  obtain ⟨s', e1, _⟩ := key
  rw [e1]
  rfl
theorem row_of_v {u : D} {l : List Stone} (hu : sq u = some (l.map stD)) (h : Valid l) : m_row_of u = some (bD l) := by
  unfold m_row_of dSeq
  have := h.1
  rw [sq_seq hu]
  simp only [Option.bind_some]
  rw [dTup_of (by rw [List.length_map]; omega)]
  simp only [Option.bind_some]
  rw [init_v h]
  rfl
@[simp] theorem len_b (l : List Stone) : m_Row_len (bD l) = some (.int l.length) := by
  unfold m_Row_len
  simp
theorem add_b {l l' : List Stone} (h : Valid (l ++ l')) : m_Row_add (bD l) (bD l') = some (bD (l ++ l')) := by
  unfold m_Row_add
  have h1 := h.1
  rw [List.length_append] at h1
  have e : dAddX (bD l) (bD l') = some (bD (l ++ l')) := by
    have : dAddX (bD l) (bD l') = some (.tup (l.map stD ++ l'.map stD)) := if_pos (by rw [sizeLine_eq, List.length_map, List.length_map]; omega)
    rw [this, bD, List.map_append]
  rw [e]
  simp only [Option.bind_some]
  rw [row_of_v rfl h]
  rfl

/-! ### the draws by dice -/
def TkOk (st : List D) : Prop := ∃ (sc : List Int) (pos : Nat) (seed rest : Int), st = [.lst (sc.map D.int), .int pos, .int seed, .int rest]
@[simp] theorem put0 (a b c d e : D) : lPut [a, b, c, d] (.int 0) e = some [e, b, c, d] := rfl
@[simp] theorem put1 (a b c d e : D) : lPut [a, b, c, d] (.int 1) e = some [a, e, c, d] := rfl
@[simp] theorem put2 (a b c d e : D) : lPut [a, b, c, d] (.int 2) e = some [a, b, e, d] := rfl
@[simp] theorem put3 (a b c d e : D) : lPut [a, b, c, d] (.int 3) e = some [a, b, c, e] := rfl
theorem next_ok {st : List D} (h : TkOk st) {m : Int} (h0 : 0 < m) (h1 : m < 1073741824) : ∃ v st', m_law_next st (.int m) = some (.int v, st') ∧ 0 ≤ v ∧ v < m ∧ TkOk st' := by
  obtain ⟨sc, pos, seed, rest, rfl⟩ := h
  unfold m_law_next
  simp only [lIx_i, at0, at1, at2, at3, Option.bind_some, dGt_ii, dInt_i, put0, put1, put2, put3, dAddX_ii, dLen_l, dSub_ii, dIx_l, pow18, dGe_ii, dLe_ii, dMod_ii h0, dDiv_ii h0 h1, dMod_ii (show (0 : Int) < 2147483647 by decide), dDiv_ii (show (0 : Int) < 7 by decide) (by decide), dMul_r (show -(2 ^ 64) < (48271 : Int) ∧ (48271 : Int) < 2 ^ 64 by decide), List.length_map]
  by_cases hr : 0 < rest
  · rw [decide_eq_true hr, cond_true]
    exact ⟨_, _, rfl, Int.emod_nonneg _ (by omega), Int.emod_lt_of_pos _ h0, sc, pos, seed, _, rfl⟩
  · rw [decide_eq_false hr, cond_false]
    have ep : (pos : Int) + 1 = ((pos + 1 : Nat) : Int) := by omega
    by_cases hp : (pos : Int) + 1 ≤ (sc.length : Int)
    · rw [decide_eq_true hp, cond_true]
      have e1 : (pos : Int) + 1 - 1 = (pos : Int) := by omega
      rw [e1, atI_i (by omega)]
      simp only [Option.bind_some, dInt_i, dMod_ii h0, dDiv_ii h0 h1, put3, dGe_ii]
      by_cases hc : (1000000000000000000 : Int) ≤ sc.getD pos 0
      · rw [decide_eq_true hc, cond_true]
        exact ⟨_, _, rfl, Int.emod_nonneg _ (by omega), Int.emod_lt_of_pos _ h0, sc, pos + 1, seed, sc.getD pos 0 / m, by rw [ep]⟩
      · rw [decide_eq_false hc, cond_false]
        exact ⟨_, _, rfl, Int.emod_nonneg _ (by omega), Int.emod_lt_of_pos _ h0, sc, pos + 1, seed, 0, by rw [ep]⟩
    · rw [decide_eq_false hp, cond_false]
      exact ⟨_, _, rfl, Int.emod_nonneg _ (by omega), Int.emod_lt_of_pos _ h0, sc, pos + 1, (seed * 48271) % 2147483647, rest, by rw [ep]⟩
theorem next_n {st : List D} (h : TkOk st) {m : Nat} (h0 : 0 < m) (h1 : m < 1073741824) : ∃ (v : Nat) (st' : List D), m_law_next st (.int m) = some (.int v, st') ∧ v < m ∧ TkOk st' := by
  obtain ⟨v, st', e, a, b, c⟩ := next_ok h (m := m) (by omega) (by omega)
  obtain ⟨n, rfl⟩ := Int.eq_ofNat_of_zero_le a
  exact ⟨n, st', e, by omega, c⟩
theorem next_k {st : List D} (h : TkOk st) (m : Nat) (h0 : 0 < m) (h1 : m < 1073741824) {i : Int} (hi : i = m) : ∃ (v : Nat) (st' : List D), m_law_next st (.int i) = some (.int v, st') ∧ v < m ∧ TkOk st' := by
  subst hi; exact next_n h h0 h1
theorem dice_ok (sc : List Int) : ∃ st, m_law_dice (.lst (sc.map D.int)) = some st ∧ TkOk st := by
  unfold m_law_dice
  simp only [dSeq_l, Option.bind_some]
  refine gv_forS (e := D.int) (l := sc) (Q := TkOk) (fun _ z => ∃ i : Int, z = .int i ∧ 0 ≤ i ∧ i < 2147483647) ⟨0, rfl, by omega, by omega⟩ ?_ ?_
  · rintro x r _ ⟨i, rfl, h1, h2⟩
    refine gv_bind (dMul_r (by decide)) (gv_bind rfl (gv_bind (dMod_ii (by decide)) (gv_bind (dMul_r (by decide)) (gv_bind (dAddX_ii _ _) (gv_bind (dAddX_ii _ _) (gv_bind rfl (gv_bind (dMod_ii (by decide)) (gv_some ?_))))))))
    exact ⟨_, rfl, Int.emod_nonneg _ (by omega), Int.emod_lt_of_pos _ (by omega)⟩
  · rintro _ ⟨i, rfl, h1, h2⟩
    refine gv_bind (dLen_l _) (gv_bind (dGt_ii _ _) (gv_bind rfl (gv_bind (dMul_l (by omega)) (gv_some ?_))))
    exact ⟨sc, 0, _, 0, rfl⟩
theorem idx39 {v : Nat} (h : v < 2) : ∃ w : Nat, dIx (.lst [(.int 3), (.int 9)]) (.int v) = some (.int w) ∧ 0 < w ∧ w ≤ 9 := by
  obtain rfl | rfl : v = 0 ∨ v = 1 := by omega
  · exact ⟨3, at0 _ _, by omega, by omega⟩
  · exact ⟨9, at1 _ _ _, by omega, by omega⟩
theorem idx25 {v : Nat} (h : v < 2) : ∃ w : Nat, dIx (.lst [(.int 2), (.int 5)]) (.int v) = some (.int w) ∧ 0 < w ∧ w ≤ 5 := by
  obtain rfl | rfl : v = 0 ∨ v = 1 := by omega
  · exact ⟨2, at0 _ _, by omega, by omega⟩
  · exact ⟨5, at1 _ _ _, by omega, by omega⟩
theorem stones_gvP {st : List D} (h : TkOk st) {most : Nat} (hm : most ≤ 40) : Gv (m_law_stones st (.int most)) (fun t => ∃ (l : List Stone) (st' : List D), t = (.lst (l.map stD), st') ∧ TkOk st' ∧ Valid l ∧ l.length ≤ most ∧ ∀ s ∈ l, s.1 < 3 + 5 * (most : Int)) := by
  unfold m_law_stones
  obtain ⟨p0, o1, e1, b1, k1⟩ := next_k h 4 (by omega) (by omega) (i := 4) rfl
  refine gv_bind e1 (gv_bind (dAddX_ii _ _) ?_)
  obtain ⟨n, o2, e2, b2, k2⟩ := next_k k1 (most + 1) (by omega) (by omega) (i := (most : Int) + 1) (by omega)
  refine gv_bind e2 (gv_bind (dRange1_n (by omega)) ?_)
  refine gv_forS (fun r z => ∃ (pl : Int) (l : List Stone) (stt : List D), z = (.int pl, stt, l.map stD) ∧ TkOk stt ∧ l.length + r.length = n ∧ pl ≤ 3 + 5 * (l.length : Int) ∧ 0 ≤ pl ∧ okSt 0 l ∧ (∀ s ∈ l, s.1 < pl ∧ s.2 ≤ 40)) ⟨p0, [], o2, rfl, k2, by simp, by simp; omega, by omega, trivial, by simp⟩ ?_ ?_
  · rintro x r _ ⟨pl, l, stt, rfl, g2, g3, g4, g5, g6, g7⟩
    simp only [List.length_cons] at g3
    obtain ⟨v1, q1, a1, a2, a3⟩ := next_k g2 2 (by omega) (by omega) (i := 2) rfl
    refine gv_bind a1 ?_
    obtain ⟨w1, a4, a5, a6⟩ := idx39 a2
    refine gv_bind a4 ?_
    obtain ⟨v2, q2, c1, c2, c3⟩ := next_n a3 (m := w1) a5 (by omega)
    refine gv_bind c1 (gv_bind (dAddX_ii _ _) (gv_bind (lApp_of (by rw [List.length_map]; omega)) (gv_bind (dAddX_ii _ _) ?_)))
    obtain ⟨v3, q3, d1, d2, d3⟩ := next_k c3 2 (by omega) (by omega) (i := 2) rfl
    refine gv_bind d1 ?_
    obtain ⟨w2, d4, d5, d6⟩ := idx25 d2
    refine gv_bind d4 ?_
    obtain ⟨v4, q4, h1, h2, h3⟩ := next_n d3 (m := w2) d5 (by omega)
    refine gv_bind h1 (gv_bind (dAddX_ii _ _) (gv_some ?_))
    refine ⟨pl + 1 + v4, l ++ [(pl, 1 + (v2 : Int))], q4, ?_, h3, ?_, ?_, ?_, ?_, ?_⟩
    · rw [List.map_append]; rfl
    · rw [List.length_append, List.length_singleton]; omega
    · rw [List.length_append, List.length_singleton]; omega
    · omega
    · rw [okSt_iff] at g6 ⊢
      refine ⟨List.pairwise_append.mpr ⟨g6.1, by simp, fun a ha b hb => ?_⟩, fun s hs => ?_⟩
      · simp only [List.mem_singleton] at hb; subst hb; exact (g7 a ha).1
      · rcases List.mem_append.mp hs with hs | hs
        · exact g6.2 s hs
        · simp only [List.mem_singleton] at hs
          subst hs
          refine ⟨g5, ?_, ?_, ?_⟩
          · show pl ≤ _; omega
          · show (1 : Int) ≤ 1 + v2; omega
          · show (1 : Int) + v2 ≤ _; omega
    · intro s hs
      rcases List.mem_append.mp hs with hs | hs
      · have := g7 s hs; omega
      · simp only [List.mem_singleton] at hs
        subst hs
        exact ⟨by show pl < _; omega, by show (1 : Int) + v2 ≤ _; omega⟩
  · rintro _ ⟨pl, l, stt, rfl, f3, f4, f5, f6, f7, f8⟩
    simp only [List.length_nil] at f4
    exact gv_some ⟨l, stt, rfl, f3, ⟨by omega, f7⟩, by omega, fun s hs => by have := f8 s hs; omega⟩
theorem valid_app {l : List Stone} {s : Stone} {x : List Stone} (h : Valid (l ++ s :: x)) : Valid (l ++ [s]) := h.sub (by simp)
theorem made_ok {l : List Stone} (hv : Valid l) : m_law_made (.lst (l.map stD)) = some (bD l) := by
  unfold m_law_made
  have e0 : m_Row_init (.tup []) = some (.tup []) := init_v (l := []) ⟨by simp, trivial⟩
  rw [e0]
  simp only [Option.bind_some, dSeq_l]
  refine forS_bind (fun r s => ∃ l1, s = bD l1 ∧ l = l1 ++ r) ⟨[], rfl, rfl⟩ ?_ ?_
  · rintro s r _ ⟨l1, rfl, rfl⟩
    have h1 : Valid (l1 ++ [s]) := valid_app hv
    have h2 : Valid [s] := h1.sub (by simp)
    have e1 : m_Row_init (.tup [stD s]) = some (bD [s]) := init_v h2
    simp only [e1, Option.bind_some]
    rw [add_b h1]
    exact ⟨_, rfl, l1 ++ [s], rfl, by simp⟩
  · rintro _ ⟨l1, rfl, rfl⟩
    simp
/-! ### heights: the plain law -/
def ht (l : List Stone) (k : Nat) : Int := (l.getD k (0, 0)).2
theorem edl_ht (l : List Stone) (k : Nat) : edl l k = plc l k + ht l k := rfl
theorem Valid.plc_lt {l : List Stone} (h : Valid l) {p q : Nat} (hpq : p < q) (hq : q < l.length) : plc l p < plc l q := by
  have h1 := (okSt_iff.mp h.2).1
  rw [List.pairwise_iff_getElem] at h1
  have hp : p < l.length := by omega
  have := h1 p q hp hq hpq
  unfold plc
  simpa [hp, hq] using this
/-- places rise -/
def Rise (l : List Stone) : Prop := ∀ p q, p < q → q < l.length → plc l p < plc l q
theorem Rise.le {l : List Stone} (h : Rise l) {p q : Nat} (hpq : p ≤ q) (hq : q < l.length) : plc l p ≤ plc l q := by
  rcases Nat.lt_or_eq_of_le hpq with h1 | h1
  · exact Int.le_of_lt (h p q h1 hq)
  · subst h1; exact Int.le_refl _
theorem Valid.rise {l : List Stone} (h : Valid l) : Rise l := fun _ _ h1 h2 => h.plc_lt h1 h2
theorem re_nest {l : List Stone} {k j : Nat} (h1 : k ≤ j) (h2 : j ≤ rightEnd l k) (hk : k < l.length) : rightEnd l j ≤ rightEnd l k := by
  have hlt := rightEnd_lt hk
  have hj : j < l.length := by omega
  have hj2 := rightEnd_lt hj
  have hge := rightEnd_ge (l := l) (i := j)
  rw [rightEnd_char (by omega) hj2]
  intro q a b
  by_cases hq : q ≤ j
  · exact (rightEnd_char h1 hj).mp h2 q a hq
  · obtain ⟨m, h3, h4, h5⟩ := (rightEnd_char hge hj2).mp (Nat.le_refl _) q (by omega) b
    exact ⟨m, by omega, h4, h5⟩
theorem re_reach {l : List Stone} (hr : Rise l) {m q : Nat} (h1 : m ≤ q) (h2 : q < l.length) (h : plc l q ≤ edl l m) : q ≤ rightEnd l m := by
  rw [rightEnd_char h1 h2]
  intro p a b
  exact ⟨m, Nat.le_refl _, a, Int.le_trans (hr.le b h2) h⟩
/-- the greatest end of the d stones behind k -/
def mx (l : List Stone) (k : Nat) : Nat → Nat
  | 0 => k
  | d + 1 => max (max (mx l k d) (k + d + 1)) (rightEnd l (k + d + 1))
theorem mx_ge {l : List Stone} {k : Nat} : ∀ {d : Nat} {j : Nat}, k < j → j ≤ k + d → j ≤ mx l k d ∧ rightEnd l j ≤ mx l k d
  | 0, j, h1, h2 => by omega
  | d + 1, j, h1, h2 => by
    unfold mx
    by_cases h : j = k + d + 1
    · subst h; omega
    · have := mx_ge (l := l) (d := d) h1 (by omega); omega
/-- what needed_to_right gives -/
def NeedR (l : List Stone) (k : Nat) (v : Int) : Prop := (rightEnd l k = k ∧ v = 1) ∨ ∃ d, 1 ≤ d ∧ k + d ≤ rightEnd l k ∧ mx l k d = rightEnd l k ∧ (∀ d', 1 ≤ d' → d' < d → mx l k d' ≠ rightEnd l k) ∧ v = plc l (k + d) - plc l k
/-- nobody between fells the one that is needed -/
theorem need_none {l : List Stone} (hr : Rise l) {k d : Nat} (hk : k < l.length) (h1 : 1 ≤ d) (h2 : k + d ≤ rightEnd l k) (h3 : mx l k d = rightEnd l k) (h4 : ∀ d', 1 ≤ d' → d' < d → mx l k d' ≠ rightEnd l k) {m : Nat} (hm : k < m) (hm2 : m < k + d) : ¬ (k + d ≤ rightEnd l m) := by
  intro h
  have hlt := rightEnd_lt hk
  have hn := re_nest (l := l) (k := m) (j := k + d) (by omega) h (by omega)
  have hg := mx_ge (l := l) (k := k) (d := d - 1) (j := m) hm (by omega)
  have he : mx l k d = mx l k (d - 1) := by
    obtain ⟨e, rfl⟩ : ∃ e, d = e + 1 := ⟨d - 1, by omega⟩
    show max (max (mx l k e) (k + e + 1)) (rightEnd l (k + e + 1)) = mx l k (e + 1 - 1)
    have e1 : e + 1 - 1 = e := by omega
    rw [e1] at hg ⊢
    have e2 : k + (e + 1) = k + e + 1 := by omega
    rw [e2] at hn h
    omega
  exact h4 (d - 1) (by omega) (by omega) (by rw [← he]; exact h3)
theorem NeedR.ok {l : List Stone} (hr : Rise l) {k : Nat} {v : Int} (hk : k < l.length) (h1 : 1 ≤ ht l k) (h : NeedR l k v) : 1 ≤ v ∧ v ≤ ht l k := by
  rcases h with ⟨_, rfl⟩ | ⟨d, a1, a2, a3, a4, rfl⟩
  · omega
  · have hlt := rightEnd_lt hk
    have := hr k (k + d) (by omega) (by omega)
    refine ⟨by omega, ?_⟩
    obtain ⟨m, b1, b2, b3⟩ := (rightEnd_char (l := l) (i := k) (j := k + d) (by omega) (by omega)).mp a2 (k + d) (by omega) (Nat.le_refl _)
    by_cases hm : m = k
    · subst hm; rw [edl_ht] at b3; omega
    · exact absurd (re_reach hr (by omega) (by omega) b3) (need_none hr hk a1 a2 a3 a4 (by omega) b2)
/-! the other side -/
/-! a small rule (BT has it too) -/
theorem bto {α β : Type} {a : Option α} {x : α} {f : α → Option β} {r : Option β} (h : a = some x) (h2 : f x = r) : a.bind f = r := by rw [h]; exact h2
/-! small rules (LK0 and BT have them too) -/
theorem gv_eq {τ : Type} {x : Option τ} {t : τ} (h : Gv x (fun y => y = t)) : x = some t := by
  obtain ⟨_, e, rfl⟩ := h; exact e
@[simp] theorem dNe_ss (i j : Str) : dNe (.str i) (.str j) = some (!decide (i = j)) := by unfold dNe; simp
theorem addL {a c : List D} (h : a.length + c.length ≤ 1000) : dAddX (.lst a) (.lst c) = some (.lst (a ++ c)) := if_pos (by rw [sizeLine_eq]; omega)
/-! ### texts: format_row and parse_row lead there and back -/
theorem sl_big {n : Nat} (h : n ≤ 10000) : n ≤ sizeLine := by rw [sizeLine_eq]; exact Nat.le_trans h (Nat.le_of_ble_eq_true rfl)
abbrev numS (i : Int) : Str := Str.ofString (toString i)
theorem tl_numS {i : Int} (h : 0 ≤ i) : TL.tl (numS i) = TL.numL i.toNat := by
  obtain ⟨n, rfl⟩ := Int.eq_ofNat_of_zero_le h
  exact TL.tl_num n
theorem numL_pos (n : Nat) : 0 < (TL.numL n).length := List.length_pos_iff.mpr (TL.numL_ne n)
theorem numS_len {i : Int} (h0 : 0 ≤ i) (h : i < 10000000000) : 1 ≤ (numS i).length ∧ (numS i).length ≤ 10 := by
  rw [TL.len_tl, tl_numS h0]
  exact ⟨numL_pos _, TL.numL_len (by decide) (by omega)⟩
theorem numL_head {n : Nat} (h : n ≠ 0) : (TL.numL n).head? ≠ some 48 := by
  induction n using Nat.strongRecOn with
  | _ n ih =>
    by_cases h1 : n < 10
    · rw [TL.numL_lt h1]
      intro e
      have : 48 + n = 48 := by simpa using e
      omega
    · rw [TL.numL_step (by omega)]
      have := ih (n / 10) (by omega) (by omega)
      have hp := numL_pos (n / 10)
      cases hc : TL.numL (n / 10) with
      | nil => rw [hc] at hp; simp at hp
      | cons c r => rw [hc] at this; simpa using this
def allDig (x : Str) : Bool := (TL.tl x).all fun c => decide (48 ≤ c ∧ c ≤ 57)
def numOk (x : Str) : Bool := (decide (1 ≤ x.length) && decide (x.length ≤ 10)) && (allDig x && (decide (x = "0") || decide ((TL.tl x).head? ≠ some 48)))
theorem lenX_s {x : Str} (h : x.length ≤ 10000) : dLenX (.str x) = some (.int x.length) := if_pos (sl_big h)
theorem tl_figs : TL.tl ("0123456789" : Str) = [48, 49, 50, 51, 52, 53, 54, 55, 56, 57] := by rw [TL.tl_ofString]; decide
theorem dInS_fig (c : Nat) : dInS (.str ⟨#[c]⟩) (.str "0123456789") = some (decide (48 ≤ c ∧ c ≤ 57)) := by
  show some (decide (c ∈ TL.tl ("0123456789" : Str))) = _
  rw [tl_figs]
  refine congrArg some (decide_eq_decide.mpr ?_)
  simp only [List.mem_cons, List.not_mem_nil, or_false]
  omega
theorem decBls_map {α : Type} (f : α → Bool) : ∀ xs : List α, decBls (xs.map fun x => D.bl (f x)) = some (xs.map f)
  | [] => rfl
  | x :: xs => by
    show (decBls (xs.map fun x => D.bl (f x))).bind _ = _
    rw [decBls_map f xs]; rfl
theorem ixX_s {x : Str} {i : Nat} (h : i < x.length) (h2 : i ≤ 10000) : ∃ c, (TL.tl x)[i]? = some c ∧ dIxX (.str x) (.int i) = some (.str ⟨#[c]⟩) := by
  have h3 : i < (TL.tl x).length := by rw [← TL.len_tl]; exact h
  refine ⟨(TL.tl x)[i], List.getElem?_eq_getElem h3, ?_⟩
  have e : dIxX (.str x) (.int i) = if 0 ≤ (i : Int) ∧ (i : Int) < 2 ^ 63 ∧ (i : Int) < x.length then (x.cps[(i : Int).toNat]?).bind fun c => some (.str ⟨#[c]⟩) else none := rfl
  rw [e, if_pos ⟨by omega, by omega, by omega⟩]
  rw [Int.toNat_natCast]
  have : x.cps[i]? = some (TL.tl x)[i] := by
    rw [← Array.getElem?_toList]; exact List.getElem?_eq_getElem h3
  rw [this]; rfl
theorem one_inj {c d : Nat} : ((⟨#[c]⟩ : Str) = ⟨#[d]⟩) ↔ c = d := by
  constructor
  · intro h
    injection h with h
    simpa using h
  · rintro rfl; rfl
theorem str_zero : ("0" : Str) = ⟨#[48]⟩ := TL.ext_tl (by rw [TL.tl_ofString]; rfl)
theorem isnum_v {x : Str} (h : x.length ≤ 10000) : m_is_number (.str x) = some (.bl (numOk x)) := by
  unfold m_is_number
  refine bto (lenX_s h) (bto (dLe_ii _ _) (bto (dLe_ii _ _) ?_))
  have c1 : decide ((1 : Int) ≤ (x.length : Int)) = decide (1 ≤ x.length) := decide_eq_decide.mpr (by omega)
  have c2 : decide ((x.length : Int) ≤ 10) = decide (x.length ≤ 10) := decide_eq_decide.mpr (by omega)
  rw [c1, c2]
  unfold numOk
  by_cases hl : 1 ≤ x.length ∧ x.length ≤ 10
  · rw [decide_eq_true hl.1, decide_eq_true hl.2]
    refine bto (x := !allDig x) ?_ ?_
    · show (cond false _ _ : Option Bool) = _
      rw [cond_false]
      refine bto (show dSeqX (.str x) = some ((TL.tl x).map fun c => D.str ⟨#[c]⟩) from rfl) ?_
      refine bto (lcG_map (fun c => D.bl (decide (48 ≤ c ∧ c ≤ 57))) (TL.tl x) (by rw [← TL.len_tl]; omega) (fun c _ => bto (dInS_fig c) rfl)) ?_
      refine bto (show dAll (.lst ((TL.tl x).map fun c => D.bl (decide (48 ≤ c ∧ c ≤ 57)))) = some (.bl (allDig x)) from ?_) rfl
      show (decBls _).bind _ = _
      rw [decBls_map]
      show some (D.bl _) = _
      unfold allDig
      rw [List.all_map]; rfl
    · cases allDig x with
      | false => rfl
      | true =>
        show (cond false _ _ : Option D) = _
        rw [cond_false]
        refine bto (dEq_ss _ _) ?_
        obtain ⟨c, e1, e2⟩ := ixX_s (x := x) (i := 0) hl.1 (by omega)
        by_cases hz : x = "0"
        · rw [decide_eq_true hz]; rfl
        · rw [decide_eq_false hz, cond_false]
          refine bto (x := decide (¬ c = 48)) (bto e2 (bto (show dNe (.str ⟨#[c]⟩) (.str "0") = some (decide (¬ c = 48)) from ?_) rfl)) ?_
          · unfold dNe
            rw [dEq_ss]
            show some (!_) = some _
            rw [str_zero]
            congr 1
            by_cases hc : c = 48
            · subst hc; simp
            · simp [hc, one_inj]
          · have : (TL.tl x).head? = some c := by rw [List.head?_eq_getElem?]; exact e1
            rw [this]
            simp
  · have : (decide (1 ≤ x.length) && decide (x.length ≤ 10)) = false := by
      simp only [Bool.and_eq_false_iff, decide_eq_false_iff_not]; omega
    rw [this]
    rfl
theorem numOk_num {i : Int} (h0 : 0 ≤ i) (h : i < 10000000000) : numOk (numS i) = true := by
  have hl := numS_len h0 h
  have hd := TL.numL_digits i.toNat
  unfold numOk allDig
  rw [decide_eq_true hl.1, decide_eq_true hl.2, tl_numS h0]
  have h1 : ((TL.numL i.toNat).all fun c => decide (48 ≤ c ∧ c ≤ 57)) = true := List.all_eq_true.mpr fun c hc => decide_eq_true (hd c hc)
  rw [h1]
  by_cases hz : i = 0
  · subst hz; rfl
  · rw [decide_eq_true (numL_head (n := i.toNat) (by omega))]
    simp
theorem intX_num {i : Int} (h0 : 0 ≤ i) (h : i < 10000000000) : dIntX (.str (numS i)) = some (.int i) := by
  unfold dIntX
  have := numS_len h0 h
  refine bto (PySem.W.KIN.num_reads h0 (by omega)) (if_pos (by omega))
/-! lines -/
def lineW (s : Stone) : List Str := ["stone", numS s.1, numS s.2]
def lineS (s : Stone) : Str := catS Str.empty ["stone", " ", numS s.1, " ", numS s.2]
theorem str_app (a b : Str) : (a ++ b).length = a.length + b.length := by rw [TL.len_tl, TL.len_tl a, TL.len_tl b, TL.tl_append, List.length_append]
theorem lineS_eq (s : Stone) : lineS s = Txt.join " " (lineW s) := by
  rw [TL.join_eq]
  apply TL.ext_tl
  show TL.tl (((((Str.empty ++ ("stone" : Str)) ++ (" " : Str)) ++ numS s.1) ++ (" " : Str)) ++ numS s.2) = TL.tl (("stone" : Str) ++ (" " : Str) ++ (numS s.1 ++ (" " : Str) ++ numS s.2))
  simp only [TL.tl_append, List.append_assoc]
  rfl
theorem len_stone : ("stone" : Str).length = 5 := by rw [TL.len_tl, TL.tl_ofString]; rfl
theorem len_blank : (" " : Str).length = 1 := by rw [TL.len_tl, TL.tl_ofString]; rfl
theorem lineS_len {s : Stone} (h1 : 0 ≤ s.1 ∧ s.1 ≤ 1000000000) (h2 : 0 ≤ s.2 ∧ s.2 ≤ 1000000000) : (lineS s).length ≤ 27 := by
  have a := numS_len h1.1 (by omega)
  have b := numS_len h2.1 (by omega)
  show (((((Str.empty ++ ("stone" : Str)) ++ (" " : Str)) ++ numS s.1) ++ (" " : Str)) ++ numS s.2).length ≤ 27
  simp only [str_app, len_stone, len_blank]
  have : Str.empty.length = 0 := rfl
  omega
theorem fmt_num {i : Int} (h0 : 0 ≤ i) (h : i < 10000000000) : dFmt (.int i) = some (.str (numS i)) := by
  refine if_pos ?_
  by_cases hz : i.natAbs = 0
  · rw [hz]; decide
  · rw [Nat.log2_lt hz]
    exact Nat.lt_of_lt_of_le (show i.natAbs < 2 ^ 40 by omega) (Nat.pow_le_pow_right (by decide) (by decide))
theorem fmt_str {x : Str} (h : x.length ≤ 10000) : dFmt (.str x) = some (.str x) := if_pos (sl_big h)
theorem line_v {s : Stone} (h1 : 0 ≤ s.1 ∧ s.1 ≤ 1000000000) (h2 : 0 ≤ s.2 ∧ s.2 ≤ 1000000000) : dFstr [.str "stone", .str " ", .str (numS s.1), .str " ", .str (numS s.2)] = some (.str (lineS s)) := by
  have a := numS_len h1.1 (by omega)
  have b := numS_len h2.1 (by omega)
  have z : Str.empty.length = 0 := rfl
  refine Eq.trans (if_pos ?_) rfl
  refine ⟨sl_big ?_, sl_big ?_, sl_big ?_, sl_big ?_, sl_big ?_, trivial⟩ <;> simp only [str_app, len_stone, len_blank, z] <;> omega
def textS (l : List Stone) : Str := Txt.join "\n" (l.map lineS)
def Small (s : Stone) : Prop := (0 ≤ s.1 ∧ s.1 ≤ 1000000000) ∧ (0 ≤ s.2 ∧ s.2 ≤ 1000000000)
theorem Valid.small {l : List Stone} (hv : Valid l) : ∀ s ∈ l, Small s := fun s hs => by
  have := (okSt_iff.mp hv.2).2 s hs
  exact ⟨⟨by omega, by omega⟩, by omega, by omega⟩
theorem decStrs_s (xs : List Str) : decStrs (xs.map D.str) = some xs := by
  induction xs with
  | nil => rfl
  | cons x xs ih =>
    show (decStrs (xs.map D.str)).bind _ = _
    rw [ih]; rfl
theorem sum_le {xs : List Str} {k : Nat} (h : ∀ x ∈ xs, x.length ≤ k) : (xs.map (·.length)).sum ≤ xs.length * k := by
  induction xs with
  | nil => simp
  | cons x xs ih =>
    have := ih fun y hy => h y (List.mem_cons_of_mem _ hy)
    have := h x (List.mem_cons_self ..)
    simp only [List.map_cons, List.sum_cons, List.length_cons, Nat.add_mul]
    omega
theorem join_v {xs : List Str} {y : Str} {k : Nat} (h : ∀ x ∈ xs, x.length ≤ k) (hk : k ≤ 1000) (hn : xs.length ≤ 1000) (hy : y.length ≤ 1000) : dJoin (.str y) (.lst (xs.map D.str)) = some (.str (Txt.join y xs)) := by
  refine bto (decStrs_s xs) (if_pos ?_)
  have a := sum_le h
  have b : xs.length * k ≤ 1000 * 1000 := Nat.mul_le_mul hn hk
  have c : xs.length * y.length ≤ 1000 * 1000 := Nat.mul_le_mul hn hy
  omega
theorem len_nl : ("\n" : Str).length = 1 := by rw [TL.len_tl, TL.tl_ofString]; rfl
theorem format_v {l : List Stone} (hv : Valid l) : m_format_row (bD l) = some (.str (textS l)) := by
  unfold m_format_row
  have hn := hv.1
  refine bto (show m_Row_stones (bD l) = some (bD l) from rfl) (bto (show dSeqX (bD l) = some (l.map stD) from rfl) ?_)
  refine bto (lcG_map (fun s => D.str (lineS s)) l (by omega) (fun s hs => ?_)) ?_
  · have hsm := hv.small s hs
    refine bto (stD_un s) (bto (fmt_str (by rw [len_stone]; decide)) (bto (fmt_num hsm.1.1 (by have := hsm.1.2; omega)) (bto (fmt_num hsm.2.1 (by have := hsm.2.2; omega)) (bto (line_v hsm.1 hsm.2) rfl))))
  · have := join_v (xs := l.map lineS) (y := "\n") (k := 27) (by
      intro x hx
      obtain ⟨s, hs, rfl⟩ := List.mem_map.mp hx
      have := hv.small s hs
      exact lineS_len this.1 this.2) (by omega) (by simp; omega) (by rw [len_nl]; decide)
    rw [List.map_map] at this
    exact bto this rfl
/-! reading -/
theorem tl_blank : TL.tl (" " : Str) = [32] := by rw [TL.tl_ofString]; rfl
theorem tl_nl : TL.tl ("\n" : Str) = [10] := by rw [TL.tl_ofString]; rfl
theorem tl_stone : TL.tl ("stone" : Str) = [115, 116, 111, 110, 101] := by rw [TL.tl_ofString]; rfl
theorem split_b {ws : List Str} (hne : ws ≠ []) (hw : ∀ x ∈ ws, 32 ∉ TL.tl x) : Txt.split (Txt.join " " ws) " " = ws :=
  TL.split_join (s := 32) (S := []) tl_blank (by decide +kernel) hne hw
theorem split_n {ws : List Str} (hne : ws ≠ []) (hw : ∀ x ∈ ws, 10 ∉ TL.tl x) : Txt.split (Txt.join "\n" ws) "\n" = ws :=
  TL.split_join (s := 10) (S := []) tl_nl (by decide +kernel) hne hw
theorem free_num {i : Int} (h : 0 ≤ i) {c : Nat} (hc : c < 48 ∨ 57 < c) : c ∉ TL.tl (numS i) := by
  rw [tl_numS h]; exact TL.numL_free hc
theorem split_vb {ws : List Str} (hne : ws ≠ []) (hw : ∀ x ∈ ws, 32 ∉ TL.tl x) (hl : (Txt.join " " ws).length ≤ 9000) : dSplit (.str (Txt.join " " ws)) (.str " ") = some (.lst (ws.map D.str)) := by
  refine Eq.trans (if_pos ⟨by rw [len_blank]; rfl, sl_big (by omega)⟩) ?_
  rw [split_b hne hw]
theorem split_vn {ws : List Str} (hne : ws ≠ []) (hw : ∀ x ∈ ws, 10 ∉ TL.tl x) (hl : (Txt.join "\n" ws).length ≤ 9000) : dSplit (.str (Txt.join "\n" ws)) (.str "\n") = some (.lst (ws.map D.str)) := by
  refine Eq.trans (if_pos ⟨by rw [len_nl]; rfl, sl_big (by omega)⟩) ?_
  rw [split_n hne hw]
theorem dIxX_l (ds : List D) (i : D) : dIxX (.lst ds) i = dIx (.lst ds) i := rfl
theorem stoneof_v {s : Stone} (h : Small s) (k : D) : m_stone_of k (.str (lineS s)) = some (stD s) := by
  have hll := lineS_len h.1 h.2
  have g : Gv (m_stone_of k (.str (lineS s))) (fun t => t = stD s) := by
    unfold m_stone_of
    have e : dSplit (.str (lineS s)) (.str " ") = some (.lst ((lineW s).map D.str)) := by
      rw [lineS_eq] at hll ⊢
      refine split_vb (by simp [lineW]) (fun x hx => ?_) (by omega)
      rcases List.mem_cons.mp hx with rfl | hx
      · rw [tl_stone]; decide
      · rcases List.mem_cons.mp hx with rfl | hx
        · exact free_num h.1.1 (by omega)
        · rw [List.mem_singleton.mp hx]; exact free_num h.2.1 (by omega)
    refine gv_bind e (gv_bind (dRange1_n (n := 3) (by omega)) ?_)
    have n1 := isnum_v (x := numS s.1) (by have := numS_len h.1.1 (by have := h.1.2; omega); omega)
    have n2 := isnum_v (x := numS s.2) (by have := numS_len h.2.1 (by have := h.2.2; omega); omega)
    rw [numOk_num h.1.1 (by have := h.1.2; omega)] at n1
    rw [numOk_num h.2.1 (by have := h.2.2; omega)] at n2
    refine gv_bind (a := PUnit.unit) ?_ ?_
    · show forS _ [D.int 0, D.int 1, D.int 2] _ = _
      have key : ∀ (f : D → PUnit → Option PUnit), f (.int 0) PUnit.unit = some PUnit.unit → f (.int 1) PUnit.unit = some PUnit.unit → f (.int 2) PUnit.unit = some PUnit.unit → forS f [.int 0, .int 1, .int 2] PUnit.unit = some PUnit.unit := by
        intro f a b c
        simp only [forS, a, b, c, Option.bind_some]
      refine key _ ?_ ?_ ?_
      · refine bto (show dLenX (.lst ((lineW s).map D.str)) = some (.int 3) from rfl) (bto (dLt_ii _ _) (bto (x := true) ?_ rfl))
        rw [show decide ((0 : Int) < 3) = true from rfl, cond_true]
        refine bto (dEq_ii _ _) (bto (x := .bl true) ?_ rfl)
        rw [show decide ((0 : Int) = 0) = true from rfl, cond_true]
        refine bto (show dIxX (.lst ((lineW s).map D.str)) (.int 0) = some (.str "stone") from (dIx_l _ _).trans (at0 _ _)) (bto (dEq_ss _ _) ?_)
        rw [decide_eq_true rfl]
      · refine bto (show dLenX (.lst ((lineW s).map D.str)) = some (.int 3) from rfl) (bto (dLt_ii _ _) (bto (x := true) ?_ rfl))
        rw [show decide ((1 : Int) < 3) = true from rfl, cond_true]
        refine bto (dEq_ii _ _) (bto (x := .bl true) ?_ rfl)
        rw [show decide ((1 : Int) = 0) = false from rfl, cond_false]
        exact bto (show dIxX (.lst ((lineW s).map D.str)) (.int 1) = some (.str (numS s.1)) from (dIx_l _ _).trans (at1 _ _ _)) (bto n1 rfl)
      · refine bto (show dLenX (.lst ((lineW s).map D.str)) = some (.int 3) from rfl) (bto (dLt_ii _ _) (bto (x := true) ?_ rfl))
        rw [show decide ((2 : Int) < 3) = true from rfl, cond_true]
        refine bto (dEq_ii _ _) (bto (x := .bl true) ?_ rfl)
        rw [show decide ((2 : Int) = 0) = false from rfl, cond_false]
        exact bto (show dIxX (.lst ((lineW s).map D.str)) (.int 2) = some (.str (numS s.2)) from (dIx_l _ _).trans (at2 _ _ _ _)) (bto n2 rfl)
    · refine gv_bind (show dLenX (.lst ((lineW s).map D.str)) = some (.int 3) from rfl) (gv_bind (dGt_ii _ _) (gv_cF ?_))
      refine gv_bind (show dIxX (.lst ((lineW s).map D.str)) (.int 1) = some (.str (numS s.1)) from (dIx_l _ _).trans (at1 _ _ _)) (gv_bind (intX_num h.1.1 (by have := h.1.2; omega)) ?_)
      refine gv_bind (show dIxX (.lst ((lineW s).map D.str)) (.int 2) = some (.str (numS s.2)) from (dIx_l _ _).trans (at2 _ _ _ _)) (gv_bind (intX_num h.2.1 (by have := h.2.2; omega)) (gv_some rfl))
  obtain ⟨t, e, rfl⟩ := g
  exact e
theorem lineS_free {s : Stone} (h : Small s) : 10 ∉ TL.tl (lineS s) := by
  show 10 ∉ TL.tl (((((Str.empty ++ ("stone" : Str)) ++ (" " : Str)) ++ numS s.1) ++ (" " : Str)) ++ numS s.2)
  simp only [TL.tl_append, List.mem_append, not_or, tl_stone, tl_blank]
  exact ⟨⟨⟨⟨⟨(by decide : 10 ∉ ([] : List Nat)), by decide⟩, by decide⟩, free_num h.1.1 (by omega)⟩, by decide⟩, free_num h.2.1 (by omega)⟩
theorem join_len {y : Str} {k : Nat} : ∀ {xs : List Str}, (∀ x ∈ xs, x.length ≤ k) → (Txt.join y xs).length ≤ xs.length * (k + y.length) := by
  intro xs
  rw [TL.join_eq]
  induction xs with
  | nil => intro _; exact Nat.zero_le _
  | cons x xs ih =>
    intro h
    have hx := h x (List.mem_cons_self ..)
    have i := ih fun z hz => h z (List.mem_cons_of_mem _ hz)
    cases xs with
    | nil =>
      show x.length ≤ _
      simp; omega
    | cons z r =>
      show (x ++ y ++ Str.join y (z :: r)).length ≤ _
      rw [str_app, str_app, List.length_cons, Nat.add_mul]
      omega
theorem textS_len {l : List Stone} (hv : Valid l) : (textS l).length ≤ 9000 := by
  have := join_len (y := "\n") (k := 27) (xs := l.map lineS) (by
    intro x hx
    obtain ⟨s, hs, rfl⟩ := List.mem_map.mp hx
    have := hv.small s hs
    exact lineS_len this.1 this.2)
  rw [len_nl, List.length_map] at this
  have := hv.1
  unfold textS
  omega
theorem textS_ne {l : List Stone} (h : l ≠ []) : textS l ≠ "" := by
  intro e
  have e2 := congrArg TL.tl e
  unfold textS at e2
  rw [TL.join_eq] at e2
  cases l with
  | nil => exact h rfl
  | cons s r =>
    have hs : TL.tl (lineS s) ≠ [] := by
      show TL.tl (((((Str.empty ++ ("stone" : Str)) ++ (" " : Str)) ++ numS s.1) ++ (" " : Str)) ++ numS s.2) ≠ []
      simp only [TL.tl_append, tl_stone]
      simp
    have e3 : TL.tl ("" : Str) = [] := by rw [TL.tl_ofString]; rfl
    rw [e3] at e2
    cases r with
    | nil => exact hs e2
    | cons z r =>
      rw [List.map_cons, List.map_cons] at e2
      have e4 : TL.tl (lineS s ++ ("\n" : Str) ++ Str.join "\n" (lineS z :: r.map lineS)) = [] := e2
      rw [TL.tl_append, TL.tl_append] at e4
      exact hs (List.append_eq_nil_iff.mp (List.append_eq_nil_iff.mp e4).1).1
theorem enumX_map {α : Type} (f : α → D) (xs : List α) : dEnum (.lst (xs.map f)) = some ((xs.zipIdx 0).map fun p => D.tup [.int (p.2 : Nat), f p.1]) := by
  unfold dEnum
  simp only [seq_l, Option.bind_some]
  rw [enumD_zip]
theorem parse_v {l : List Stone} (hv : Valid l) : m_parse_row (.str (textS l)) = some (bD l) := by
  unfold m_parse_row
  have hn := hv.1
  refine bto (x := !decide (textS l = "")) (by unfold dNe; rw [dEq_ss]; rfl) ?_
  refine bto (x := .lst ((l.map lineS).map D.str)) ?_ ?_
  · by_cases h : l = []
    · subst h
      rfl
    · rw [decide_eq_false (textS_ne h)]
      refine bto (split_vn (ws := l.map lineS) (by simpa using h) (fun x hx => ?_) (textS_len hv)) rfl
      obtain ⟨s, hs, rfl⟩ := List.mem_map.mp hx
      exact lineS_free (hv.small s hs)
  · rw [List.map_map]
    refine bto (enumX_map (fun s => D.str (lineS s)) l) ?_
    refine bto (lcG_map (fun p : Stone × Nat => stD p.1) (l.zipIdx 0) (by simp; omega) (fun p hp => ?_)) ?_
    · refine bto (dUn2_t _ _) (bto (stoneof_v (hv.small p.1 ?_) _) rfl)
      obtain ⟨s, k⟩ := p
      exact List.fst_mem_of_mem_zipIdx hp
    · have e : (l.zipIdx 0).map (fun p : Stone × Nat => stD p.1) = l.map stD := by
        rw [show (fun p : Stone × Nat => stD p.1) = stD ∘ Prod.fst from rfl, ← List.map_map, List.zipIdx_map_fst]
      rw [e]
      exact bto (row_of_v rfl hv) rfl
/-! ### k01: what is rejected -/
theorem forX_pre {σ τ : Type} {fx : D → σ → Option τ} {f : D → σ → Option σ} {k : σ → Option τ} {d : D} {r : List D} {x : τ} (I : List D → σ → Prop) (h : ∀ e q s, I (e :: q) s → fx e s = none ∧ ∃ s', f e s = some s' ∧ I q s') (hd : ∀ s, I [] s → fx d s = some x) : ∀ (pre : List D) (s : σ), I pre s → forX fx f k (pre ++ d :: r) s = some x
  | [], s, h0 => by
    show orX (fx d s) _ = _
    rw [hd s h0]; rfl
  | e :: pre, s, h0 => by
    obtain ⟨h1, s', h2, h3⟩ := h e pre s h0
    show orX (fx e s) ((f e s).bind _) = _
    rw [h1, h2]
    exact forX_pre I h hd pre s' h3
theorem forX_none {σ τ : Type} {fx : D → σ → Option τ} {f : D → σ → Option σ} {k : σ → Option τ} {x : Option τ} (I : List D → σ → Prop) (h : ∀ e q s, I (e :: q) s → fx e s = none ∧ ∃ s', f e s = some s' ∧ I q s') (hk : ∀ s, I [] s → k s = x) : ∀ (pre : List D) (s : σ), I pre s → forX fx f k pre s = x
  | [], s, h0 => hk s h0
  | e :: pre, s, h0 => by
    obtain ⟨h1, s', h2, h3⟩ := h e pre s h0
    show orX (fx e s) ((f e s).bind _) = _
    rw [h1, h2]
    exact forX_none I h hk pre s' h3
/-- the least place behind a row -/
def nxA : Int → List Stone → Int
  | a, [] => a
  | _, s :: r => nxA (s.1 + 1) r
theorem nxA_last {l : List Stone} : ∀ {a : Int}, l ≠ [] → nxA a l = (l.getD (l.length - 1) (0, 0)).1 + 1 := by
  induction l with
  | nil => intro a h; exact absurd rfl h
  | cons s r ih =>
    intro a _
    by_cases h : r = []
    · subst h; rfl
    · have hp : 0 < r.length := List.length_pos_iff.mpr h
      show nxA (s.1 + 1) r = _
      rw [ih h]
      have e : (s :: r).length - 1 = r.length - 1 + 1 := by simp; omega
      rw [e]
      simp
theorem enumD_app : ∀ (a : List D) (n : Nat) (b : List D), enumD n (a ++ b) = enumD n a ++ enumD (n + a.length) b
  | [], n, b => rfl
  | x :: a, n, b => by
    show D.tup [.int n, x] :: enumD (n + 1) (a ++ b) = D.tup [.int n, x] :: (enumD (n + 1) a ++ _)
    rw [enumD_app a (n + 1) b, show n + 1 + a.length = n + (x :: a).length by simp; omega]
theorem dSmall_n {n : Nat} (h : n ≤ 1000) : dSmall (.int n) = some (n : Int) := if_pos (by
  have : (1000 : Nat) < 10 ^ 64 := by decide
  omega)
/-- what the walk over the stones knows -/
def InI (M : Int) (N : Nat) (pre : List D) (s : D) : Prop := ∃ (l : List Stone) (n : Nat) (a : Int), pre = enumD n (l.map stD) ∧ s = .int a ∧ okSt a l ∧ n + l.length = N ∧ N ≤ 40 ∧ nxA a l = M
theorem InI.start {l : List Stone} (hv : Valid l) : InI (nxA 0 l) l.length (enumD 0 (l.map stD)) (.int 0) := ⟨l, 0, 0, rfl, rfl, hv.2, by omega, hv.1, rfl⟩
theorem InI.nil {M : Int} {N : Nat} {s : D} (h : InI M N [] s) : s = .int M := by
  obtain ⟨l, n, a, e, rfl, _, _, _, h2⟩ := h
  cases l with
  | nil => rw [← h2]; rfl
  | cons t r => cases e
theorem InI.cons {M : Int} {N : Nat} {e : D} {q : List D} {s : D} (h : InI M N (e :: q) s) : ∃ (t : Stone) (n : Nat) (a : Int), e = .tup [.int n, stD t] ∧ s = .int a ∧ n < 40 ∧ (a ≤ t.1 ∧ t.1 ≤ 1000000000 ∧ 1 ≤ t.2 ∧ t.2 ≤ 1000000000) ∧ InI M N q (.int (t.1 + 1)) := by
  obtain ⟨l, n, a, e1, rfl, h1, h2, h3, h4⟩ := h
  cases l with
  | nil => cases e1
  | cons t r =>
    cases e1
    obtain ⟨o1, o2, o3, o4, o5⟩ := h1
    simp only [List.length_cons] at h2
    exact ⟨t, n, a, rfl, rfl, by omega, ⟨o1, o2, o3, o4⟩, r, n + 1, t.1 + 1, rfl, rfl, o5, by omega, h3, h4⟩
theorem isstone_ok {t : Stone} {a : Int} (h : a ≤ t.1 ∧ t.1 ≤ 1000000000 ∧ 1 ≤ t.2 ∧ t.2 ≤ 1000000000) : m_is_stone (stD t) (.int a) = some (.bl true) := by
  rw [isstone_s, decide_eq_true h]
theorem xinit_bad {l : List Stone} {d : D} {r : List D} (hv : Valid l) (hb : l.length = 40 ∨ m_is_stone d (.int (nxA 0 l)) = some (.bl false)) : x_Row_init (.tup (l.map stD ++ d :: r)) = some ⟨"InvalidRow", ["index"], [.int l.length]⟩ := by
  have hl := hv.1
  refine gv_eq ?_
  unfold x_Row_init
  refine gv_bind (a := enumD 0 (l.map stD ++ d :: r)) rfl ?_
  rw [enumD_app]
  show Gv (forX _ _ _ (enumD 0 (l.map stD) ++ D.tup [.int ((0 + (l.map stD).length : Nat) : Int), d] :: enumD (0 + (l.map stD).length + 1) r) _) _
  rw [show 0 + (l.map stD).length = l.length by simp]
  refine ⟨_, forX_pre (InI (nxA 0 l) l.length) ?_ ?_ _ _ (InI.start hv), rfl⟩
  · intro e q s h
    obtain ⟨t, n, a, rfl, rfl, h1, h2, h3⟩ := h.cons
    have e1 : decide ((n : Int) = 40) = false := by simp; omega
    refine ⟨?_, .int (t.1 + 1), ?_, h3⟩
    · simp only [dUn2_t, Option.bind_some, dEq_ii, e1, cond_false, isstone_ok h2, dB_b, Bool.not_true]
    · simp only [dUn2_t, Option.bind_some, dEq_ii, e1, cond_false, isstone_ok h2, dB_b, Bool.not_true, stD_0, dAddX_ii]
  · intro s h
    obtain rfl := h.nil
    simp only [dUn2_t, Option.bind_some, dEq_ii]
    by_cases h40 : l.length = 40
    · have e1 : decide ((l.length : Int) = 40) = true := by simp; omega
      simp only [e1, cond_true, Option.bind_some, dSmall_n (show l.length ≤ 1000 by omega)]
    · have e1 : decide ((l.length : Int) = 40) = false := by simp; omega
      have hb := hb.resolve_left h40
      simp only [e1, cond_false, hb, Option.bind_some, dB_b, Bool.not_false, cond_true, dSmall_n (show l.length ≤ 1000 by omega)]
theorem xinit_ok {l : List Stone} (hv : Valid l) : x_Row_init (bD l) = none := by
  unfold x_Row_init
  show forX _ _ _ (enumD 0 (l.map stD)) _ = none
  refine forX_none (InI (nxA 0 l) l.length) ?_ (fun _ _ => rfl) _ _ (InI.start hv)
  intro e q s h
  obtain ⟨t, n, a, rfl, rfl, h1, h2, h3⟩ := h.cons
  have e1 : decide ((n : Int) = 40) = false := by simp; omega
  refine ⟨?_, .int (t.1 + 1), ?_, h3⟩
  · simp only [dUn2_t, Option.bind_some, dEq_ii, e1, cond_false, isstone_ok h2, dB_b, Bool.not_true]
  · simp only [dUn2_t, Option.bind_some, dEq_ii, e1, cond_false, isstone_ok h2, dB_b, Bool.not_true, stD_0, dAddX_ii]
/-! what is no stone -/
/-! ### k46: lines of words, read -/
/-- a word that may stand in a line -/
structure Wd (w : Str) : Prop where
  nb : 32 ∉ TL.tl w
  nn : 10 ∉ TL.tl w
  len : w.length ≤ 11
  num : numOk w = true → ∃ i : Int, 0 ≤ i ∧ i < 10000000000 ∧ w = numS i
  asc : ((TL.tl w).all fun c => decide (c < 128)) = true
theorem wd_num {i : Int} (h0 : 0 ≤ i) (h : i < 10000000000) : Wd (numS i) :=
  ⟨free_num h0 (by omega), free_num h0 (by omega), by have := numS_len h0 h; omega, fun _ => ⟨i, h0, h, rfl⟩, List.all_eq_true.mpr fun c hc => decide_eq_true (by
    rw [tl_numS h0] at hc
    have := TL.numL_digits i.toNat c hc
    omega)⟩
theorem wd_no {w : Str} (h1 : 32 ∉ TL.tl w) (h2 : 10 ∉ TL.tl w) (h3 : w.length ≤ 11) (h4 : numOk w = false) (h5 : ((TL.tl w).all fun c => decide (c < 128)) = true := by decide +kernel) : Wd w := ⟨h1, h2, h3, (fun h => nomatch h4.symm.trans h), h5⟩
theorem wd_stone : Wd "stone" := wd_no (by decide +kernel) (by decide +kernel) (by decide +kernel) (by decide +kernel)
def odds : List Str := ["", "0", "1", "01", "stone", "-1", "1000000001", "10000000000", "x", "59"]
theorem wd_odd : ∀ w ∈ odds, Wd w := by
  intro w hw
  simp only [odds, List.mem_cons, List.not_mem_nil, or_false] at hw
  rcases hw with rfl | rfl | rfl | rfl | rfl | rfl | rfl | rfl | rfl | rfl
  · exact wd_no (by decide +kernel) (by decide +kernel) (by decide +kernel) (by decide +kernel)
  · exact wd_num (i := 0) (by decide) (by decide)
  · exact wd_num (i := 1) (by decide) (by decide)
  · exact wd_no (by decide +kernel) (by decide +kernel) (by decide +kernel) (by decide +kernel)
  · exact wd_stone
  · exact wd_no (by decide +kernel) (by decide +kernel) (by decide +kernel) (by decide +kernel)
  · exact (show ("1000000001" : Str) = numS 1000000001 from congrArg Str.ofString (by decide +kernel)) ▸ wd_num (i := 1000000001) (by decide) (by decide)
  · exact wd_no (by decide +kernel) (by decide +kernel) (by decide +kernel) (by decide +kernel)
  · exact wd_no (by decide +kernel) (by decide +kernel) (by decide +kernel) (by decide +kernel)
  · exact (show ("59" : Str) = numS 59 from congrArg Str.ofString (by decide +kernel)) ▸ wd_num (i := 59) (by decide) (by decide)
/-- is the word at j as it should be -/
def chk (ws : List Str) (j : Nat) : Bool := match ws[j]? with
  | none => false
  | some w => if j = 0 then decide (w = "stone") else numOk w
def lnD (ws : List Str) : D := .lst (ws.map D.str)
theorem lnD_at {ws : List Str} {j : Nat} (h : j < ws.length) : dIxX (lnD ws) (.int j) = some (.str ws[j]) :=
  (dIxX_l _ _).trans ((dIx_l _ _).trans (atI_get' (by rw [List.getElem?_map, List.getElem?_eq_getElem h]; rfl)))
theorem lnD_len (ws : List Str) : dLenX (lnD ws) = some (.int (ws.length : Nat)) := by
  show (some (D.int ((ws.map D.str).length : Nat)) : Option D) = _
  rw [List.length_map]
theorem chk_lt {ws : List Str} {j : Nat} (h : j < ws.length) : chk ws j = if j = 0 then decide (ws[j] = "stone") else numOk ws[j] := by
  unfold chk
  rw [List.getElem?_eq_getElem h]
theorem chk_ge {ws : List Str} {j : Nat} (h : ws.length ≤ j) : chk ws j = false := by
  unfold chk
  rw [List.getElem?_eq_none h]
theorem chkC {ws : List Str} (hw : ∀ w ∈ ws, Wd w) (j : Nat) : cond (decide ((j : Int) < (ws.length : Nat))) ((dEq (.int j) (.int 0)).bind fun t6 => (cond t6 ((dIxX (lnD ws) (.int j)).bind fun t7 => (dEq t7 (.str "stone")).bind fun t8 => some (D.bl t8)) ((dIxX (lnD ws) (.int j)).bind fun t9 => (m_is_number t9).bind fun t10 => some t10)).bind fun t11 => (dB t11).bind fun t12 => some t12) (some false) = some (chk ws j) := by
  by_cases h : j < ws.length
  · have h' : (j : Int) < (ws.length : Nat) := by omega
    rw [decide_eq_true h', cond_true, chk_lt h]
    refine bto (dEq_ii _ _) ?_
    by_cases h0 : j = 0
    · rw [decide_eq_true (by omega), cond_true, if_pos h0]
      exact bto (x := D.bl _) (bto (lnD_at h) (bto (dEq_ss _ _) rfl)) rfl
    · rw [decide_eq_false (by omega), cond_false, if_neg h0]
      exact bto (x := D.bl _) (bto (lnD_at h) (bto (isnum_v (by have := (hw _ (List.getElem_mem h)).len; omega)) rfl)) rfl
  · rw [decide_eq_false (by omega), cond_false, chk_ge (by omega)]
/-- the first word that is not as it should be -/
def badW (ws : List Str) : Option Nat := if chk ws 0 = false then some 0 else if chk ws 1 = false then some 1 else if chk ws 2 = false then some 2 else if 3 < ws.length then some 3 else none
def neX (k j : Nat) : XN := ⟨"NotationError", ["word", "line"], [.int (j : Nat), .int (k : Nat)]⟩
theorem split_ln {ws : List Str} (hne : ws ≠ []) (hw : ∀ w ∈ ws, Wd w) (hl : ws.length ≤ 10) : dSplit (.str (Txt.join " " ws)) (.str " ") = some (lnD ws) := by
  refine split_vb hne (fun x hx => (hw x hx).nb) ?_
  have := join_len (y := " ") (k := 11) (xs := ws) fun x hx => (hw x hx).len
  rw [len_blank] at this
  omega
theorem small46 {n : Nat} (h : n ≤ 1000) : dSmall (.int (n : Nat)) = some ((n : Nat) : Int) := dSmall_n h
theorem forX3 {ws : List Str} {k : Nat} {fx : D → PUnit → Option XN} {f : D → PUnit → Option PUnit} {kk : PUnit → Option XN} (h1 : ∀ j : Nat, j < 3 → fx (.int (j : Nat)) PUnit.unit = if chk ws j = false then some (neX k j) else none)
    (h2 : ∀ j : Nat, j < 3 → f (.int (j : Nat)) PUnit.unit = if chk ws j = false then none else some PUnit.unit) (h3 : kk PUnit.unit = if 3 < ws.length then some (neX k 3) else none) :
    forX fx f kk [.int (0 : Nat), .int (1 : Nat), .int (2 : Nat)] PUnit.unit = (badW ws).map (neX k) := by
  simp only [forX, h1 0 (by decide), h1 1 (by decide), h1 2 (by decide), h2 0 (by decide), h2 1 (by decide), h2 2 (by decide), h3]
  unfold badW
  cases c0 : chk ws 0 <;> cases c1 : chk ws 1 <;> cases c2 : chk ws 2 <;> by_cases c3 : 3 < ws.length <;> simp [c3]
theorem xstone_v {ws : List Str} (hne : ws ≠ []) (hw : ∀ w ∈ ws, Wd w) (hl : ws.length ≤ 10) {k : Nat} (hk : k ≤ 1000) : x_stone_of (.int (k : Nat)) (.str (Txt.join " " ws)) = (badW ws).map (neX k) := by
  unfold x_stone_of
  refine bto (split_ln hne hw hl) (bto (dRange1_n (n := 3) (by decide)) (forX3 ?_ ?_ ?_))
  · intro j hj
    refine bto (lnD_len ws) (bto (dLt_ii _ _) (bto (chkC hw j) (bto (dB_b _) ?_)))
    cases chk ws j with
    | true => rfl
    | false => exact bto (small46 hk) (bto (small46 (by omega)) rfl)
  · intro j hj
    refine bto (lnD_len ws) (bto (dLt_ii _ _) (bto (chkC hw j) (bto (dB_b _) ?_)))
    cases chk ws j <;> rfl
  · refine bto (lnD_len ws) (bto (dGt_ii _ _) ?_)
    by_cases h : 3 < ws.length
    · rw [decide_eq_true (by omega), if_pos h]
      exact bto (small46 hk) (bto (small46 (n := 3) (by decide)) rfl)
    · rw [decide_eq_false (by omega), if_neg h]; rfl
/-- a stone whose numbers have ten figures at most -/
def Big (s : Stone) : Prop := (0 ≤ s.1 ∧ s.1 < 10000000000) ∧ (0 ≤ s.2 ∧ s.2 < 10000000000)
theorem badW_none {ws : List Str} (hw : ∀ w ∈ ws, Wd w) (h : badW ws = none) : ∃ s : Stone, Big s ∧ ws = lineW s := by
  unfold badW at h
  split at h
  · cases h
  · split at h
    · cases h
    · split at h
      · cases h
      · split at h
        · cases h
        · rename_i c0 c1 c2 c3
          have l0 : 2 < ws.length := by
            refine Nat.lt_of_not_le fun z => c2 (chk_ge z)
          have l3 : ws.length = 3 := by omega
          match ws, l3 with
          | [a, b, c], _ =>
            have e0 : a = "stone" := by
              have : chk [a, b, c] 0 = decide (a = "stone") := rfl
              rw [this] at c0
              simpa using c0
            have e1 : numOk b = true := by
              have : chk [a, b, c] 1 = numOk b := rfl
              rw [this] at c1
              simpa using c1
            have e2 : numOk c = true := by
              have : chk [a, b, c] 2 = numOk c := rfl
              rw [this] at c2
              simpa using c2
            obtain ⟨i, i0, i1, rfl⟩ := (hw b (by simp)).num e1
            obtain ⟨j, j0, j1, rfl⟩ := (hw c (by simp)).num e2
            exact ⟨(i, j), ⟨⟨i0, i1⟩, j0, j1⟩, by rw [e0]; rfl⟩
theorem wd_line {s : Stone} (h : Big s) : ∀ w ∈ lineW s, Wd w := by
  intro w hw
  simp only [lineW, List.mem_cons, List.not_mem_nil, or_false] at hw
  rcases hw with rfl | rfl | rfl
  · exact wd_stone
  · exact wd_num h.1.1 h.1.2
  · exact wd_num h.2.1 h.2.2
theorem chk_line {s : Stone} (h : Big s) : chk (lineW s) 0 = true ∧ chk (lineW s) 1 = true ∧ chk (lineW s) 2 = true :=
  ⟨(show chk (lineW s) 0 = decide (("stone" : Str) = "stone") from rfl).trans (by simp), (show chk (lineW s) 1 = numOk (numS s.1) from rfl).trans (numOk_num h.1.1 h.1.2), (show chk (lineW s) 2 = numOk (numS s.2) from rfl).trans (numOk_num h.2.1 h.2.2)⟩
theorem badW_line {s : Stone} (h : Big s) : badW (lineW s) = none := by
  obtain ⟨c0, c1, c2⟩ := chk_line h
  unfold badW
  rw [c0, c1, c2]; rfl
theorem mstone_v {s : Stone} (h : Big s) (k : D) : m_stone_of k (.str (Txt.join " " (lineW s))) = some (stD s) := by
  have hw := wd_line h
  have g : Gv (m_stone_of k (.str (Txt.join " " (lineW s)))) (fun t => t = stD s) := by
    unfold m_stone_of
    refine gv_bind (split_ln (by simp [lineW]) hw (show 3 ≤ 10 by decide)) (gv_bind (dRange1_n (n := 3) (by decide)) (gv_bind (a := PUnit.unit) ?_ ?_))
    · have key : ∀ (f : D → PUnit → Option PUnit), (∀ j : Nat, j < 3 → f (.int (j : Nat)) PUnit.unit = some PUnit.unit) → forS f [.int (0 : Nat), .int (1 : Nat), .int (2 : Nat)] PUnit.unit = some PUnit.unit := by
        intro f a
        simp only [forS, a 0 (by decide), a 1 (by decide), a 2 (by decide), Option.bind_some]
      refine key _ fun j hj => ?_
      have c : chk (lineW s) j = true := by
        obtain ⟨c0, c1, c2⟩ := chk_line h
        match j, hj with
        | 0, _ => exact c0
        | 1, _ => exact c1
        | 2, _ => exact c2
      refine bto (lnD_len _) (bto (dLt_ii _ _) (bto (chkC hw j) (bto (dB_b _) ?_)))
      rw [c]; rfl
    · refine gv_bind (lnD_len _) (gv_bind (dGt_ii _ _) (gv_cF ?_))
      refine gv_bind (lnD_at (ws := lineW s) (j := 1) (show 1 < 3 by decide)) (gv_bind (intX_num h.1.1 h.1.2) ?_)
      refine gv_bind (lnD_at (ws := lineW s) (j := 2) (show 2 < 3 by decide)) (gv_bind (intX_num h.2.1 h.2.2) (gv_some rfl))
  obtain ⟨t, e, rfl⟩ := g
  exact e
/-! ### k46: the law's own reader -/
theorem les_lo (c : Nat) : dLeS (.str "0") (.str ⟨#[c]⟩) = some (decide (48 ≤ c)) := by
  show some (!decide ([c] < TL.tl ("0" : Str))) = _
  rw [show TL.tl ("0" : Str) = [48] by rw [TL.tl_ofString]; rfl]
  by_cases h : 48 ≤ c
  · rw [decide_eq_true h, decide_eq_false]; rfl
    simp only [List.cons_lt_cons_iff]
    simp; omega
  · rw [decide_eq_false h, decide_eq_true]; rfl
    simp only [List.cons_lt_cons_iff]
    left; omega
theorem les_hi (c : Nat) : dLeS (.str ⟨#[c]⟩) (.str "9") = some (decide (c ≤ 57)) := by
  show some (!decide (TL.tl ("9" : Str) < [c])) = _
  rw [show TL.tl ("9" : Str) = [57] by rw [TL.tl_ofString]; rfl]
  by_cases h : c ≤ 57
  · rw [decide_eq_true h, decide_eq_false]; rfl
    simp only [List.cons_lt_cons_iff]
    simp; omega
  · rw [decide_eq_false h, decide_eq_true]; rfl
    simp only [List.cons_lt_cons_iff]
    left; omega
theorem ok_one {c : Nat} (h : c < 128) : (D.str ⟨#[c]⟩).ok = true := by
  show PyData.strOk ⟨#[c]⟩ = true
  unfold PyData.strOk
  rw [← Array.all_toList]
  simp; omega
theorem depAll_of {n : Nat} : ∀ {ds : List D}, (∀ d ∈ ds, d.dep ≤ n) → depAll ds ≤ n
  | [], _ => Nat.zero_le _
  | d :: ds, h => by
    have h1 := h d (List.mem_cons_self ..)
    have h2 := depAll_of fun e he => h e (List.mem_cons_of_mem _ he)
    show max d.dep (depAll ds) ≤ n
    omega
theorem figures_v {x : Str} (h : Wd x) : m_law_figures (.str x) = some (.bl (numOk x)) := by
  have hl := h.len
  unfold m_law_figures
  refine bto (lenX_s (by omega)) (bto (dLe_ii _ _) (bto (dLe_ii _ _) ?_))
  have c1 : decide ((1 : Int) ≤ (x.length : Int)) = decide (1 ≤ x.length) := decide_eq_decide.mpr (by omega)
  have c2 : decide ((x.length : Int) ≤ 10) = decide (x.length ≤ 10) := decide_eq_decide.mpr (by omega)
  rw [c1, c2]
  unfold numOk
  by_cases hl : 1 ≤ x.length ∧ x.length ≤ 10
  · rw [decide_eq_true hl.1, decide_eq_true hl.2]
    refine bto (x := !allDig x) ?_ ?_
    · show (cond false _ _ : Option Bool) = _
      rw [cond_false]
      refine bto (show dSeqX (.str x) = some ((TL.tl x).map fun c => D.str ⟨#[c]⟩) from rfl) ?_
      refine bto (lcG_filter (e := fun c => D.str ⟨#[c]⟩) (fun c => !decide (48 ≤ c ∧ c ≤ 57)) (TL.tl x) (by rw [← TL.len_tl]; omega) (fun c _ => bto (les_lo c) (bto (les_hi c) ?_))) ?_
      · by_cases a : 48 ≤ c <;> by_cases b : c ≤ 57 <;> simp [a, b]
      · generalize hF : (TL.tl x).filter (fun c => !decide (48 ≤ c ∧ c ≤ 57)) = F
        have h1 : ∀ c ∈ F, c < 128 := by
          intro c hc
          rw [← hF] at hc
          simpa using List.all_eq_true.mp h.asc c (List.mem_filter.mp hc).1
        have e : allDig x = decide (F = []) := by
          rw [← hF]
          unfold allDig
          rw [Bool.eq_iff_iff]
          simp only [List.all_eq_true, decide_eq_true_eq, List.filter_eq_nil_iff]
          refine forall_congr' fun c => forall_congr' fun _ => ?_
          simp
        refine bto (x := !decide (F = [])) ?_ (by rw [e])
        unfold dNe
        have d1 : (D.lst (F.map fun c => D.str ⟨#[c]⟩)).ok = true := by
          simp only [D.ok]
          refine okAll_of fun d hd => ?_
          obtain ⟨c, hc, rfl⟩ := List.mem_map.mp hd
          exact ok_one (h1 c hc)
        have d2 : (D.lst (F.map fun c => D.str ⟨#[c]⟩)).dep ≤ 64 := by
          have := depAll_of (n := 1) (ds := F.map fun c => D.str ⟨#[c]⟩) fun d hd => by
            obtain ⟨c, hc, rfl⟩ := List.mem_map.mp hd
            exact Nat.le_of_ble_eq_true rfl
          simp only [D.dep]
          omega
        rw [dEq_dd (e := .lst []) rfl d1 rfl d2 (by decide)]
        show some (!_) = _
        congr 2
        cases F <;> simp
    · cases allDig x with
      | false => rfl
      | true =>
        show (cond false _ _ : Option D) = _
        rw [cond_false]
        refine bto (dEq_ss _ _) ?_
        obtain ⟨c, e1, e2⟩ := ixX_s (x := x) (i := 0) hl.1 (by omega)
        by_cases hz : x = "0"
        · rw [decide_eq_true hz]; rfl
        · rw [decide_eq_false hz, cond_false]
          refine bto (x := decide (¬ c = 48)) (bto e2 (bto (show dNe (.str ⟨#[c]⟩) (.str "0") = some (decide (¬ c = 48)) from ?_) rfl)) ?_
          · unfold dNe
            rw [dEq_ss]
            show some (!_) = some _
            rw [str_zero]
            congr 1
            by_cases hc : c = 48
            · subst hc; simp
            · simp [hc, one_inj]
          · have : (TL.tl x).head? = some c := by rw [List.head?_eq_getElem?]; exact e1
            rw [this]
            simp
  · have : (decide (1 ≤ x.length) && decide (x.length ≤ 10)) = false := by
      simp only [Bool.and_eq_false_iff, decide_eq_false_iff_not]; omega
    rw [this]
    rfl
/-! the first walk -/
/-- the first line that is not as it should be, and its word -/
def badL : List (List Str) → Nat → Option (Nat × Nat)
  | [], _ => none
  | ws :: r, k => match badW ws with
    | some j => some (k, j)
    | none => badL r (k + 1)
def erD (n : Str) (l : List Nat) : D := .tup [.str "error", .str n, .lst (l.map fun k => D.int (k : Nat))]
def neD (k j : Nat) : D := erD "NotationError" [k, j]
theorem forF3 {ws : List Str} {k : Nat} {f : D → PUnit → Option (Fl PUnit D)} (h : ∀ j : Nat, j < 3 → f (.int (j : Nat)) PUnit.unit = some (if chk ws j = false then .rt (neD k j) else .nx PUnit.unit)) :
    forF f [.int (0 : Nat), .int (1 : Nat), .int (2 : Nat)] PUnit.unit = some (if chk ws 0 = false then .rt (neD k 0) else if chk ws 1 = false then .rt (neD k 1) else if chk ws 2 = false then .rt (neD k 2) else .nx PUnit.unit) := by
  simp only [forF, h 0 (by decide), h 1 (by decide), h 2 (by decide)]
  cases c0 : chk ws 0 <;> cases c1 : chk ws 1 <;> cases c2 : chk ws 2 <;> simp
theorem forF_bad {F : D → PUnit → Option (Fl PUnit D)} : ∀ (M : List (List Str)) (k : Nat), (∀ i ws, M[i]? = some ws → F (.int ((k + i : Nat) : Int)) PUnit.unit = some (match badW ws with | some j => .rt (neD (k + i) j) | none => .nx PUnit.unit)) →
    forF F ((List.range' k M.length).map fun k => D.int (k : Nat)) PUnit.unit = some (match badL M k with | some (i, j) => .rt (neD i j) | none => .nx PUnit.unit)
  | [], k, _ => rfl
  | ws :: M, k, h => by
    have h0 := h 0 ws rfl
    have ih := forF_bad (F := F) M (k + 1) fun i w e => by
      have := h (i + 1) w e
      rw [show k + (i + 1) = k + 1 + i by omega] at this
      exact this
    rw [List.length_cons, List.range'_succ, List.map_cons]
    show (F (.int (k : Nat)) PUnit.unit).bind _ = _
    rw [show ((k + 0 : Nat) : Int) = ((k : Nat) : Int) from rfl] at h0
    rw [h0]
    unfold badL
    cases e : badW ws with
    | some j => rfl
    | none =>
      simp only [Option.bind_some]
      exact ih
theorem catX_l {a c : List D} (h : a.length + c.length ≤ 1000) : dAddS (.lst a) (.lst c) = some (.lst (a ++ c)) := addL h
def LnOk (ws : List Str) : Prop := ws ≠ [] ∧ (∀ w ∈ ws, Wd w) ∧ ws.length ≤ 10
theorem wd_void : Wd "" := wd_odd "" (by simp [odds])
/-- with three empty words behind -/
theorem pad_at {ws : List Str} (hw : ∀ w ∈ ws, Wd w) {j : Nat} (hj : j < 3) : ∃ w, Wd w ∧ (∀ h : j < ws.length, w = ws[j]) ∧ dIxX (.lst (ws.map D.str ++ [.str "", .str "", .str ""])) (.int (j : Nat)) = some (.str w) := by
  by_cases h : j < ws.length
  · refine ⟨ws[j], hw _ (List.getElem_mem h), fun _ => rfl, ?_⟩
    refine (dIxX_l _ _).trans ((dIx_l _ _).trans (atI_get' ?_))
    rw [List.getElem?_append_left (by simpa using h), List.getElem?_map, List.getElem?_eq_getElem h]; rfl
  · refine ⟨"", wd_void, fun z => absurd z h, ?_⟩
    refine (dIxX_l _ _).trans ((dIx_l _ _).trans (atI_get' ?_))
    rw [List.getElem?_append_right (by simpa using Nat.le_of_not_lt h)]
    have : j - (ws.map D.str).length < 3 := by omega
    match h3 : j - (ws.map D.str).length, this with
    | 0, _ => rfl
    | 1, _ => rfl
    | 2, _ => rfl
/-! ### k46: the reader's two walks -/
theorem lnsD_len (L : List (List Str)) : dLenX (.lst (L.map lnD)) = some (.int (L.length : Nat)) := by
  show (some (D.int ((L.map lnD).length : Nat)) : Option D) = _
  rw [List.length_map]
theorem lnsD_at {L : List (List Str)} {i : Nat} {ws : List Str} (h : L[i]? = some ws) : dIxX (.lst (L.map lnD)) (.int (i : Nat)) = some (lnD ws) :=
  (dIxX_l _ _).trans ((dIx_l _ _).trans (atI_get' (by rw [List.getElem?_map, h]; rfl)))
theorem parsed_eq {L : List (List Str)} (hL : ∀ ws ∈ L, LnOk ws) (hl : L.length ≤ 50) : m_law_parsed (.lst (L.map lnD)) = (match badL L 0 with
    | some (k, j) => some (neD k j)
    | none => m_law_parsed (.lst (L.map lnD))) := by
  cases hb : badL L 0 with
  | none => rfl
  | some p =>
    obtain ⟨k, j⟩ := p
    unfold m_law_parsed
    refine bto (lnsD_len L) (bto (dRange1_n (by omega)) ?_)
    rw [List.range_eq_range']
    refine bto (forF_bad L 0 ?_) ?_
    · intro i ws hi
      obtain ⟨hne, hw, hn⟩ := hL ws (List.mem_of_getElem? hi)
      rw [Nat.zero_add]
      refine bto (dRange1_n (n := 3) (by decide)) (bto (forF3 (ws := ws) (k := i) ?_) ?_)
      · intro j hj
        obtain ⟨w, ww, e1, e2⟩ := pad_at hw hj
        refine bto (lnsD_at hi) (bto (catX_l (a := ws.map D.str) (by simp; omega)) (bto e2 (bto (dEq_ii _ _) (bto (x := .bl (if j = 0 then decide (w = "stone") else numOk w)) ?_ (bto (lnsD_at hi) (bto (lnD_len ws) (bto (dGe_ii _ _) (bto (x := !chk ws j) ?_ ?_))))))))
        · by_cases h0 : j = 0
          · rw [decide_eq_true (by omega), cond_true, if_pos h0]
            exact bto (dEq_ss _ _) rfl
          · rw [decide_eq_false (by omega), cond_false, if_neg h0]
            exact bto (figures_v ww) rfl
        · by_cases h : j < ws.length
          · rw [decide_eq_false (by omega), cond_false, chk_lt h, e1 h]
            exact bto (dB_b _) rfl
          · rw [decide_eq_true (by omega), cond_true, chk_ge (by omega)]; rfl
        · cases chk ws j <;> rfl
      · unfold badW
        cases c0 : chk ws 0 with
        | false => rfl
        | true =>
          cases c1 : chk ws 1 with
          | false => rfl
          | true =>
            cases c2 : chk ws 2 with
            | false => rfl
            | true =>
              simp only [Bool.true_eq_false, if_false]
              refine bto (lnsD_at hi) (bto (lnD_len ws) (bto (dGt_ii _ _) ?_))
              by_cases h : 3 < ws.length
              · rw [decide_eq_true (by omega), if_pos h]; rfl
              · rw [decide_eq_false (by omega), if_neg h]; rfl
    · rw [hb]
/-! stones -/
def OkS (a : Int) (s : Stone) : Prop := a ≤ s.1 ∧ s.1 ≤ 1000000000 ∧ 1 ≤ s.2 ∧ s.2 ≤ 1000000000
instance (a : Int) (s : Stone) : Decidable (OkS a s) := by unfold OkS; exact inferInstance
/-- the first stone that no row takes -/
def firstB : Nat → Int → List Stone → Option Nat
  | _, _, [] => none
  | k, a, s :: r => if k = 40 ∨ ¬ OkS a s then some k else firstB (k + 1) (s.1 + 1) r
theorem rcond {k : Nat} {a : Int} {s : Stone} : cond (decide (((k : Nat) : Int) = 40)) (some true) ((dPow (.int 10) (.int 9)).bind fun t34 => (dLe (.int a) (.int s.1)).bind fun t35 => (dLe (.int s.1) t34).bind fun t36 => (cond (!(t35 && t36)) (some true) ((dPow (.int 10) (.int 9)).bind fun t37 => (dLe (.int 1) (.int s.2)).bind fun t38 => (dLe (.int s.2) t37).bind fun t39 => some (!(t38 && t39)))).bind fun t40 => some t40) = some (decide (k = 40 ∨ ¬ OkS a s)) := by
  simp only [pow9, Option.bind_some, dLe_ii]
  unfold OkS
  by_cases h : k = 40
  · simp [h]
  · have h' : ¬ ((k : Int) = 40) := by omega
    rw [decide_eq_false h', cond_false]
    by_cases h1 : a ≤ s.1 <;> by_cases h2 : s.1 ≤ 1000000000 <;> by_cases h3 : 1 ≤ s.2 <;> by_cases h4 : s.2 ≤ 1000000000 <;> simp [h, h1, h2, h3, h4]
theorem forF_rows {F : D → D × D → Option (Fl (D × D) D)} {S : List Stone} (h : ∀ (k : Nat) s a ds, S[k]? = some s → ds.length ≤ 50 → F (.int (k : Nat)) (.int a, .lst ds) = some (if k = 40 ∨ ¬ OkS a s then .rt (erD "InvalidRow" [k]) else .nx (.int (s.1 + 1), .lst (ds ++ [stD s])))) (hl : S.length ≤ 50) :
    ∀ (M P : List Stone), S = P ++ M → forF F ((List.range' P.length M.length).map fun k => D.int (k : Nat)) (.int (nxA 0 P), .lst (P.map stD)) = some (match firstB P.length (nxA 0 P) M with | some k => .rt (erD "InvalidRow" [k]) | none => .nx (.int (nxA 0 S), .lst (S.map stD)))
  | [], P, e => by
    rw [List.append_nil] at e
    subst e
    rfl
  | s :: M, P, e => by
    have hp : P.length ≤ 50 := by
      have := congrArg List.length e
      rw [List.length_append] at this; omega
    have e0 : S[P.length]? = some s := by rw [e, List.getElem?_append_right (Nat.le_refl _)]; simp
    have h0 := h P.length s (nxA 0 P) (P.map stD) e0 (by rw [List.length_map]; exact hp)
    have ih := forF_rows h hl M (P ++ [s]) (by rw [e]; simp)
    rw [List.length_cons, List.range'_succ, List.map_cons]
    show (F (.int (P.length : Nat)) _).bind _ = _
    rw [h0]
    have en : nxA 0 (P ++ [s]) = s.1 + 1 := by
      rw [nxA_last (by simp)]
      simp
    rw [en, List.length_append, List.length_singleton, List.map_append] at ih
    unfold firstB
    by_cases hc : P.length = 40 ∨ ¬ OkS (nxA 0 P) s
    · rw [if_pos hc, if_pos hc]; rfl
    · rw [if_neg hc, if_neg hc]
      exact ih
theorem okSt_snoc {s : Stone} : ∀ {P : List Stone} {a : Int}, okSt a P → OkS (nxA a P) s → okSt a (P ++ [s])
  | [], a, _, h => ⟨h.1, h.2.1, h.2.2.1, h.2.2.2, trivial⟩
  | t :: P, a, ⟨h1, h2, h3, h4, h5⟩, h => ⟨h1, h2, h3, h4, okSt_snoc h5 h⟩
theorem nxA_snoc {P : List Stone} {s : Stone} : nxA 0 (P ++ [s]) = s.1 + 1 := by
  rw [nxA_last (by simp)]
  simp
theorem firstB_spec : ∀ (M P : List Stone), Valid P → match firstB P.length (nxA 0 P) M with
    | some k => ∃ l s r, P ++ M = l ++ s :: r ∧ Valid l ∧ l.length = k ∧ (l.length = 40 ∨ m_is_stone (stD s) (.int (nxA 0 l)) = some (.bl false))
    | none => Valid (P ++ M)
  | [], P, hv => by rw [List.append_nil]; exact hv
  | s :: M, P, hv => by
    unfold firstB
    by_cases hc : P.length = 40 ∨ ¬ OkS (nxA 0 P) s
    · rw [if_pos hc]
      refine ⟨P, s, M, rfl, hv, rfl, hc.imp (fun z => z) fun z => ?_⟩
      rw [isstone_s, decide_eq_false (show ¬ (_ ∧ _ ∧ _ ∧ _) from z)]
    · rw [if_neg hc]
      have h1 : P.length ≠ 40 := fun z => hc (.inl z)
      have h2 : OkS (nxA 0 P) s := by
        by_cases z : OkS (nxA 0 P) s
        · exact z
        · exact absurd (.inr z) hc
      have hv2 : Valid (P ++ [s]) := ⟨by have := hv.1; rw [List.length_append, List.length_singleton]; omega, okSt_snoc hv.2 h2⟩
      have ih := firstB_spec M (P ++ [s]) hv2
      rw [nxA_snoc, List.length_append, List.length_singleton, List.append_assoc] at ih
      exact ih
theorem badL_lines : ∀ {S : List Stone} (k : Nat), (∀ s ∈ S, Big s) → badL (S.map lineW) k = none
  | [], _, _ => rfl
  | s :: S, k, h => by
    rw [List.map_cons]
    unfold badL
    rw [badW_line (h s (List.mem_cons_self ..))]
    exact badL_lines (k + 1) fun t ht => h t (List.mem_cons_of_mem _ ht)
theorem badL_none : ∀ {L : List (List Str)} {k : Nat}, (∀ ws ∈ L, LnOk ws) → badL L k = none → ∃ S : List Stone, L = S.map lineW ∧ ∀ s ∈ S, Big s
  | [], _, _, _ => ⟨[], rfl, fun _ h => nomatch h⟩
  | ws :: L, k, hL, h => by
    unfold badL at h
    cases e : badW ws with
    | some j => rw [e] at h; cases h
    | none =>
      rw [e] at h
      obtain ⟨s, hs, rfl⟩ := badW_none (hL ws (List.mem_cons_self ..)).2.1 e
      obtain ⟨S, rfl, hS⟩ := badL_none (fun w hw => hL w (List.mem_cons_of_mem _ hw)) h
      exact ⟨s :: S, rfl, fun t ht => (List.mem_cons.mp ht).elim (fun z => z ▸ hs) (hS t)⟩
theorem addS_ii (i j : Int) : dAddS (.int i) (.int j) = some (.int (i + j)) := dAddX_ii i j
theorem parsed_rows {S : List Stone} (hS : ∀ s ∈ S, Big s) (hl : S.length ≤ 50) : m_law_parsed (.lst ((S.map lineW).map lnD)) = some (match firstB 0 0 S with
    | some k => erD "InvalidRow" [k]
    | none => .tup (S.map stD)) := by
  have hL : ∀ ws ∈ S.map lineW, LnOk ws := by
    intro ws hws
    obtain ⟨s, hs, rfl⟩ := List.mem_map.mp hws
    exact ⟨by simp [lineW], wd_line (hS s hs), show 3 ≤ 10 by decide⟩
  have hl2 : (S.map lineW).length ≤ 50 := by rw [List.length_map]; exact hl
  have hb := badL_lines 0 hS
  unfold m_law_parsed
  refine bto (lnsD_len _) (bto (dRange1_n (by omega)) ?_)
  rw [List.range_eq_range']
  refine bto (forF_bad (S.map lineW) 0 ?_) ?_
  · intro i ws hi
    obtain ⟨hne, hw, hn⟩ := hL ws (List.mem_of_getElem? hi)
    rw [Nat.zero_add]
    refine bto (dRange1_n (n := 3) (by decide)) (bto (forF3 (ws := ws) (k := i) ?_) ?_)
    · intro j hj
      obtain ⟨w, ww, e1, e2⟩ := pad_at hw hj
      refine bto (lnsD_at hi) (bto (catX_l (a := ws.map D.str) (by simp; omega)) (bto e2 (bto (dEq_ii _ _) (bto (x := .bl (if j = 0 then decide (w = "stone") else numOk w)) ?_ (bto (lnsD_at hi) (bto (lnD_len ws) (bto (dGe_ii _ _) (bto (x := !chk ws j) ?_ ?_))))))))
      · by_cases h0 : j = 0
        · rw [decide_eq_true (by omega), cond_true, if_pos h0]
          exact bto (dEq_ss _ _) rfl
        · rw [decide_eq_false (by omega), cond_false, if_neg h0]
          exact bto (figures_v ww) rfl
      · by_cases h : j < ws.length
        · rw [decide_eq_false (by omega), cond_false, chk_lt h, e1 h]
          exact bto (dB_b _) rfl
        · rw [decide_eq_true (by omega), cond_true, chk_ge (by omega)]; rfl
      · cases chk ws j <;> rfl
    · unfold badW
      cases c0 : chk ws 0 with
      | false => rfl
      | true =>
        cases c1 : chk ws 1 with
        | false => rfl
        | true =>
          cases c2 : chk ws 2 with
          | false => rfl
          | true =>
            simp only [Bool.true_eq_false, if_false]
            refine bto (lnsD_at hi) (bto (lnD_len ws) (bto (dGt_ii _ _) ?_))
            by_cases h : 3 < ws.length
            · rw [decide_eq_true (by omega), if_pos h]; rfl
            · rw [decide_eq_false (by omega), if_neg h]; rfl
  · rw [hb]
    refine bto (lnsD_len _) (bto (dRange1_n (by omega)) ?_)
    rw [List.range_eq_range', List.length_map]
    refine bto (forF_rows (S := S) ?_ hl S [] rfl) ?_
    · intro k s a ds hk hds
      have hs := hS s (List.mem_of_getElem? hk)
      have hk2 : (S.map lineW)[k]? = some (lineW s) := by rw [List.getElem?_map, hk]; rfl
      refine bto (lnsD_at hk2) (bto (lnD_at (ws := lineW s) (j := 1) (show 1 < 3 by decide)) (bto (intX_num hs.1.1 hs.1.2) ?_))
      refine bto (lnsD_at hk2) (bto (lnD_at (ws := lineW s) (j := 2) (show 2 < 3 by decide)) (bto (intX_num hs.2.1 hs.2.2) (bto (dEq_ii _ _) (bto rcond ?_))))
      by_cases hc : k = 40 ∨ ¬ OkS a s
      · rw [decide_eq_true hc, if_pos hc]; rfl
      · rw [decide_eq_false hc, if_neg hc, cond_false]
        exact bto (addS_ii _ _) (bto (catX_l (by simp; omega)) rfl)
    · show (match (match firstB 0 0 S with | some k => Fl.rt (erD "InvalidRow" [k]) | none => Fl.nx (D.int (nxA 0 S), D.lst (S.map stD))) with | .nx (s44, s45) => (dTuple s45).bind fun t46 => some t46 | .rt t => some t | .bk _ => none) = _
      cases firstB 0 0 S with
      | some k => rfl
      | none => exact bto (show dTuple (.lst (S.map stD)) = some (.tup (S.map stD)) from if_pos (by rw [sizeLine_eq, List.length_map]; omega)) rfl
/-! ### k46: parse_row at any lines of words -/
def lnS (ws : List Str) : Str := Txt.join " " ws
def txt (L : List (List Str)) : Str := Txt.join "\n" (L.map lnS)
theorem lnS_free : ∀ {ws : List Str}, (∀ w ∈ ws, Wd w) → 10 ∉ TL.tl (lnS ws) := by
  intro ws
  unfold lnS
  rw [TL.join_eq]
  induction ws with
  | nil => intro _ h; cases h
  | cons w ws ih =>
    intro h
    have hw := (h w (List.mem_cons_self ..)).nn
    have i := ih fun z hz => h z (List.mem_cons_of_mem _ hz)
    cases ws with
    | nil => exact hw
    | cons z r =>
      show 10 ∉ TL.tl (w ++ " " ++ Str.join " " (z :: r))
      simp only [TL.tl_append, List.mem_append, not_or, tl_blank]
      exact ⟨⟨hw, by decide⟩, i⟩
theorem lnS_len {ws : List Str} (h : LnOk ws) : (lnS ws).length ≤ 120 := by
  have := join_len (y := " ") (k := 11) (xs := ws) fun x hx => (h.2.1 x hx).len
  rw [len_blank] at this
  have := h.2.2
  unfold lnS
  omega
theorem txt_len {L : List (List Str)} (hL : ∀ ws ∈ L, LnOk ws) (hl : L.length ≤ 50) : (txt L).length ≤ 9000 := by
  have := join_len (y := "\n") (k := 120) (xs := L.map lnS) fun x hx => by
    obtain ⟨ws, hws, rfl⟩ := List.mem_map.mp hx
    exact lnS_len (hL ws hws)
  rw [len_nl, List.length_map] at this
  unfold txt
  omega
theorem split_txt {L : List (List Str)} (hL : ∀ ws ∈ L, LnOk ws) (hl : L.length ≤ 50) (hne : L ≠ []) : dSplit (.str (txt L)) (.str "\n") = some (.lst (L.map fun ws => D.str (lnS ws))) := by
  have := split_vn (ws := L.map lnS) (by simpa using hne) (fun x hx => by
    obtain ⟨ws, hws, rfl⟩ := List.mem_map.mp hx
    exact lnS_free (hL ws hws).2.1) (txt_len hL hl)
  rw [List.map_map] at this
  exact this
theorem lcX_bad {xf : D → Option XN} {f : D → Option (Option D)} : ∀ (M : List (List Str)) (k : Nat), (∀ i ws, M[i]? = some ws → xf (.tup [.int ((k + i : Nat) : Int), .str (lnS ws)]) = (badW ws).map (neX (k + i)) ∧ (badW ws = none → ∃ o, f (.tup [.int ((k + i : Nat) : Int), .str (lnS ws)]) = some o)) →
    lcX xf f ((M.zipIdx k).map fun p => D.tup [.int (p.2 : Nat), .str (lnS p.1)]) = (badL M k).map fun p => neX p.1 p.2
  | [], _, _ => rfl
  | ws :: M, k, h => by
    obtain ⟨h0, h1⟩ := h 0 ws rfl
    have ih := lcX_bad (xf := xf) (f := f) M (k + 1) fun i w e => by
      have := h (i + 1) w e
      rw [show k + (i + 1) = k + 1 + i by omega] at this
      exact this
    rw [List.zipIdx_cons, List.map_cons]
    show orX (xf (.tup [.int ((k + 0 : Nat) : Int), .str (lnS ws)])) ((f (.tup [.int ((k + 0 : Nat) : Int), .str (lnS ws)])).bind fun _ => lcX xf f _) = _
    rw [h0]
    unfold badL
    cases e : badW ws with
    | some j => rfl
    | none =>
      obtain ⟨o, ho⟩ := h1 e
      rw [ho]
      exact ih
theorem xparse_v {L : List (List Str)} (hL : ∀ ws ∈ L, LnOk ws) (hl : L.length ≤ 50) (hne : L ≠ []) (ht : txt L ≠ "") {p : Nat × Nat} (hb : badL L 0 = some p) : x_parse_row (.str (txt L)) = some (neX p.1 p.2) := by
  unfold x_parse_row
  refine bto (dNe_ss _ _) ?_
  rw [decide_eq_false ht]
  refine bto (x := .lst (L.map fun ws => D.str (lnS ws))) (bto (split_txt hL hl hne) rfl) (bto (enumX_map (fun ws => D.str (lnS ws)) L) ?_)
  refine (congrArg (fun z => orX z _) ((if_pos ?_).trans (lcX_bad L 0 ?_))).trans ?_
  · rw [List.length_map, List.length_zipIdx, sizeLine_eq]; omega
  · intro i ws hi
    have ok := hL ws (List.mem_of_getElem? hi)
    have hi2 := (List.getElem?_eq_some_iff.mp hi).1
    rw [Nat.zero_add]
    refine ⟨bto (dUn2_t _ _) (xstone_v ok.1 ok.2.1 ok.2.2 (by omega)), fun e => ?_⟩
    obtain ⟨s, hs, rfl⟩ := badW_none ok.2.1 e
    exact ⟨_, bto (dUn2_t _ _) (bto (mstone_v hs _) rfl)⟩
  · rw [hb]; rfl
theorem lines_v {S : List Stone} (hS : ∀ s ∈ S, Big s) (hl : S.length ≤ 50) {f : D → Option (Option D)} (hf : ∀ k s, Big s → f (.tup [.int (k : Nat), .str (lnS (lineW s))]) = some (some (stD s))) :
    lcG f (((S.map lineW).zipIdx 0).map fun p => D.tup [.int (p.2 : Nat), .str (lnS p.1)]) = some (S.map stD) := by
  have e : ((S.map lineW).zipIdx 0).map (fun p => D.tup [.int (p.2 : Nat), .str (lnS p.1)]) = (S.zipIdx 0).map fun p => D.tup [.int (p.2 : Nat), .str (lnS (lineW p.1))] := by
    rw [List.zipIdx_map, List.map_map]; rfl
  rw [e, lcG_map (fun p : Stone × Nat => stD p.1) (S.zipIdx 0) (by simp; omega) (fun p hp => hf p.2 p.1 (hS p.1 ?_))]
  · rw [show (fun p : Stone × Nat => stD p.1) = stD ∘ Prod.fst from rfl, ← List.map_map, List.zipIdx_map_fst]
  · obtain ⟨s, k⟩ := p
    exact List.fst_mem_of_mem_zipIdx hp
theorem ok_lines {S : List Stone} (hS : ∀ s ∈ S, Big s) : ∀ ws ∈ S.map lineW, LnOk ws := by
  intro ws hws
  obtain ⟨s, hs, rfl⟩ := List.mem_map.mp hws
  exact ⟨by simp [lineW], wd_line (hS s hs), show 3 ≤ 10 by decide⟩
theorem xparse_rows {S : List Stone} (hS : ∀ s ∈ S, Big s) (hl : S.length ≤ 50) (hne : S ≠ []) (ht : txt (S.map lineW) ≠ "") : x_parse_row (.str (txt (S.map lineW))) = (firstB 0 0 S).map fun k => ⟨"InvalidRow", ["index"], [.int (k : Nat)]⟩ := by
  have hL := ok_lines hS
  have hl2 : (S.map lineW).length ≤ 50 := by rw [List.length_map]; exact hl
  unfold x_parse_row
  refine bto (dNe_ss _ _) ?_
  rw [decide_eq_false ht]
  refine bto (x := .lst ((S.map lineW).map fun ws => D.str (lnS ws))) (bto (split_txt hL hl2 (by simpa using hne)) rfl) (bto (enumX_map (fun ws => D.str (lnS ws)) (S.map lineW)) ?_)
  refine (congrArg (fun z => orX z _) ((if_pos ?_).trans (lcX_bad (S.map lineW) 0 ?_))).trans ?_
  · rw [List.length_map, List.length_zipIdx, sizeLine_eq]; omega
  · intro i ws hi
    have ok := hL ws (List.mem_of_getElem? hi)
    have hi2 := (List.getElem?_eq_some_iff.mp hi).1
    rw [Nat.zero_add]
    refine ⟨bto (dUn2_t _ _) (xstone_v ok.1 ok.2.1 ok.2.2 (by omega)), fun e => ?_⟩
    obtain ⟨s, hs, rfl⟩ := badW_none ok.2.1 e
    exact ⟨_, bto (dUn2_t _ _) (bto (mstone_v hs _) rfl)⟩
  · rw [badL_lines 0 hS]
    show (lcG _ _).bind _ = _
    refine bto (lines_v hS hl fun k s hs => bto (dUn2_t _ _) (bto (mstone_v hs _) rfl)) ?_
    unfold x_row_of
    refine bto (dSeq_l _) (bto (dTup_of (by simp; omega)) ?_)
    have sp := firstB_spec S [] ⟨by simp, trivial⟩
    rw [List.nil_append] at sp
    revert sp
    show (match firstB 0 0 S with | some k => _ | none => _) → _
    cases firstB 0 0 S with
    | none => intro sp; exact xinit_ok sp
    | some k =>
      rintro ⟨l, s, r, rfl, hv, rfl, hb⟩
      rw [List.map_append, List.map_cons]
      exact xinit_bad hv hb
theorem mparse_rows {S : List Stone} (hv : Valid S) (hS : ∀ s ∈ S, Big s) (hne : S ≠ []) (ht : txt (S.map lineW) ≠ "") : m_parse_row (.str (txt (S.map lineW))) = some (bD S) := by
  have hL := ok_lines hS
  have hl := hv.1
  have hl2 : (S.map lineW).length ≤ 50 := by rw [List.length_map]; omega
  unfold m_parse_row
  refine bto (dNe_ss _ _) ?_
  rw [decide_eq_false ht]
  refine bto (x := .lst ((S.map lineW).map fun ws => D.str (lnS ws))) (bto (split_txt hL hl2 (by simpa using hne)) rfl) (bto (enumX_map (fun ws => D.str (lnS ws)) (S.map lineW)) ?_)
  exact bto (lines_v hS (by omega) fun k s hs => bto (dUn2_t _ _) (bto (mstone_v hs _) rfl)) (bto (row_of_v rfl hv) rfl)
theorem su_ne (k j : Nat) : m_su_law_told (neX k j) = some (neD k j) := by rfl
theorem su_row (k : Nat) : m_su_law_told ⟨"InvalidRow", ["index"], [.int (k : Nat)]⟩ = some (erD "InvalidRow" [k]) := by rfl
theorem tell_ok {τ : Type} {x : Option XN} {old : τ} {su : XN → Option D} {m : Option (D × τ)} (h : x = none) : tellM (x.bind fun x_ => some (x_, old)) su m = m := by subst h; rfl
theorem tell_bad {τ : Type} {x : Option XN} {xn : XN} {old : τ} {su : XN → Option D} {m : Option (D × τ)} {r : D} (h : x = some xn) (hs : su xn = some r) : tellM (x.bind fun x_ => some (x_, old)) su m = some (r, old) := by
  subst h
  show (su xn).bind (fun r => some (r, old)) = _
  rw [hs]; rfl
theorem dNe_dd46 {d : D} (hs : scD d d = false) (h1 : d.ok = true) (h2 : d.dep ≤ 64) : dNe d d = some false := by
  unfold dNe
  rw [dEq_dd hs h1 h1 h2 h2]
  simp
theorem dNe_er (n : Str) (l : List Nat) (h : PyData.strOk n = true) : dNe (erD n l) (erD n l) = some false := by
  have h0 : PyData.strOk "error" = true := by decide +kernel
  have i1 : okAll (l.map fun k => D.int (k : Nat)) = true := okAll_of fun d hd => by
    obtain ⟨k, _, rfl⟩ := List.mem_map.mp hd
    rfl
  have i2 : depAll (l.map fun k => D.int (k : Nat)) ≤ 1 := depAll_of fun d hd => by
    obtain ⟨k, _, rfl⟩ := List.mem_map.mp hd
    exact Nat.le_of_ble_eq_true rfl
  refine dNe_dd46 rfl ?_ ?_
  · simp [erD, D.ok, okAll, h, h0, i1]
  · simp only [erD, D.dep, depAll]
    omega
theorem dNe_bD46 (l : List Stone) : dNe (bD l) (bD l) = some false := by
  have i1 : okAll (l.map stD) = true := okAll_of fun d hd => by
    obtain ⟨k, _, rfl⟩ := List.mem_map.mp hd
    rfl
  have i2 : depAll (l.map stD) ≤ 3 := depAll_of fun d hd => by
    obtain ⟨k, _, rfl⟩ := List.mem_map.mp hd
    exact Nat.le_of_ble_eq_true rfl
  refine dNe_dd46 rfl ?_ ?_
  · simp [D.ok, i1]
  · simp only [D.dep]
    omega
/-- what parse_row tells -/
noncomputable def told46 (T : D) : Option (D × PUnit) := tellM ((x_parse_row T : Option XN).bind fun x_ => some (x_, (PUnit.unit : PUnit))) m_su_law_told ((m_parse_row T).bind fun t66 => (m_Row_stones t66).bind fun t67 => some (t67, PUnit.unit))
theorem told_void : told46 (.str "") = some (.tup [], PUnit.unit) := by
  have e : m_parse_row (.str "") = some (bD []) := parse_v (l := []) ⟨by simp, trivial⟩
  have x : x_parse_row (.str "") = none := by
    unfold x_parse_row
    refine bto (dNe_ss _ _) ?_
    rw [decide_eq_true rfl]
    rfl
  unfold told46
  rw [tell_ok x, e]; rfl
theorem told_v {L : List (List Str)} (hL : ∀ ws ∈ L, LnOk ws) (hl : L.length ≤ 50) (hne : L ≠ []) (ht : txt L ≠ "") : ∃ r, m_law_parsed (.lst (L.map lnD)) = some r ∧ told46 (.str (txt L)) = some (r, PUnit.unit) ∧ dNe r r = some false := by
  cases hb : badL L 0 with
  | some p =>
    obtain ⟨k, j⟩ := p
    have e := parsed_eq hL hl
    rw [hb] at e
    exact ⟨neD k j, e, tell_bad (xparse_v hL hl hne ht hb) (su_ne k j), dNe_er _ _ (by decide +kernel)⟩
  | none =>
    obtain ⟨S, rfl, hS⟩ := badL_none hL hb
    rw [List.length_map] at hl
    have hne' : S ≠ [] := by simpa using hne
    have e := parsed_rows hS hl
    have x := xparse_rows hS hl hne' ht
    have sp := firstB_spec S [] ⟨by simp, trivial⟩
    rw [List.nil_append] at sp
    revert sp e x
    show _ → _ → (match firstB 0 0 S with | some k => _ | none => _) → _
    cases firstB 0 0 S with
    | some k =>
      intro e x _
      exact ⟨_, e, tell_bad x (su_row k), dNe_er _ _ (by decide +kernel)⟩
    | none =>
      intro e x hv
      refine ⟨_, e, (tell_ok x).trans ?_, dNe_bD46 S⟩
      rw [mparse_rows hv hS hne' ht]; rfl
/-! ### k46: the law -/
/-- what the law asks of changed lines -/
noncomputable def tail46 (d : D) (o45 : List D) : Option (Fl (List D) D) := (dSeqX d).bind fun t51 => (lcG (fun d52 => (dNe d52 (.lst [])).bind fun t53 => (cond t53 (some d52) (some (.lst [(.str "")]))).bind fun t54 => some (some t54)) t51).bind fun t55 => (dSeqX (.lst t55)).bind fun t56 => (lcG (fun d57 => (dJoin (.str " ") d57).bind fun t58 => some (some t58)) t56).bind fun t59 => (dJoin (.str "\n") (.lst t59)).bind fun t60 => (dNe t60 (.str "")).bind fun t61 => (cond t61 ((m_law_parsed (.lst t55)).bind fun t62 => some t62) (some (.tup []))).bind fun t63 => ((tellM ((x_parse_row t60 : Option XN).bind fun x_ => some (x_, (PUnit.unit : PUnit))) m_su_law_told ((m_parse_row t60).bind fun t66 => (m_Row_stones t66).bind fun t67 => some (t67, PUnit.unit)) : Option (D × PUnit))).bind fun z => (match z with | (t68, _u) => (dNe t68 t63).bind fun t69 => cond t69 (some (.rt (.bl false))) (some (.nx o45)))
def fixL (ws : List Str) : List Str := if ws = [] then [""] else ws
/-- words, ten at most -/
def Ws (ws : List Str) : Prop := (∀ w ∈ ws, Wd w) ∧ ws.length ≤ 10
theorem fix_ok {ws : List Str} (h : Ws ws) : LnOk (fixL ws) := by
  unfold fixL
  by_cases e : ws = []
  · rw [if_pos e]
    exact ⟨by simp, fun w hw => by rw [List.mem_singleton.mp hw]; exact wd_void, Nat.le_of_ble_eq_true rfl⟩
  · rw [if_neg e]
    exact ⟨e, h.1, h.2⟩
theorem dNe_ln {ws : List Str} (h : ∀ w ∈ ws, Wd w) : dNe (lnD ws) (.lst []) = some (!decide (ws = [])) := by
  have d1 : (lnD ws).ok = true := by
    simp only [lnD, D.ok]
    refine okAll_of fun d hd => ?_
    obtain ⟨w, hw, rfl⟩ := List.mem_map.mp hd
    show PyData.strOk w = true
    unfold PyData.strOk
    rw [← Array.all_toList]
    refine List.all_eq_true.mpr fun c hc => ?_
    have := List.all_eq_true.mp (h w hw).asc c hc
    simp at this ⊢
    omega
  have d2 : (lnD ws).dep ≤ 64 := by
    have := depAll_of (n := 1) (ds := ws.map D.str) fun d hd => by
      obtain ⟨c, hc, rfl⟩ := List.mem_map.mp hd
      exact Nat.le_of_ble_eq_true rfl
    simp only [lnD, D.dep]
    omega
  unfold dNe
  rw [dEq_dd (e := .lst []) rfl d1 rfl d2 (by decide)]
  show some (!_) = _
  congr 2
  cases ws <;> simp [lnD]
theorem joins_v {L : List (List Str)} (hL : ∀ ws ∈ L, LnOk ws) (hl : L.length ≤ 50) {f : D → Option (Option D)} (hf : ∀ ws, LnOk ws → f (lnD ws) = some (some (.str (lnS ws)))) : lcG f (L.map lnD) = some (L.map fun ws => D.str (lnS ws)) :=
  lcG_map (fun ws => D.str (lnS ws)) L (by omega) fun ws hws => hf ws (hL ws hws)
theorem join1 {ws : List Str} (h : LnOk ws) : dJoin (.str " ") (lnD ws) = some (.str (lnS ws)) := join_v (k := 11) (fun x hx => (h.2.1 x hx).len) (by decide) (by have := h.2.2; omega) (by rw [len_blank]; decide)
theorem join2 {L : List (List Str)} (hL : ∀ ws ∈ L, LnOk ws) (hl : L.length ≤ 50) : dJoin (.str "\n") (.lst (L.map fun ws => D.str (lnS ws))) = some (.str (txt L)) := by
  have := join_v (xs := L.map lnS) (y := "\n") (k := 120) (fun x hx => by
    obtain ⟨ws, hws, rfl⟩ := List.mem_map.mp hx
    exact lnS_len (hL ws hws)) (by decide) (by rw [List.length_map]; omega) (by rw [len_nl]; decide)
  rw [List.map_map] at this
  exact this
theorem tail46_v {M : List (List Str)} (hM : ∀ ws ∈ M, Ws ws) (hl : M.length ≤ 50) (hne : M ≠ []) (o : List D) : tail46 (.lst (M.map lnD)) o = some (.nx o) := by
  have hL : ∀ ws ∈ M.map fixL, LnOk ws := by
    intro ws hws
    obtain ⟨v, hv, rfl⟩ := List.mem_map.mp hws
    exact fix_ok (hM v hv)
  have hl2 : (M.map fixL).length ≤ 50 := by rw [List.length_map]; exact hl
  have hne2 : M.map fixL ≠ [] := by simpa using hne
  unfold tail46
  refine bto (show dSeqX (.lst (M.map lnD)) = some (M.map lnD) from rfl) (bto (x := (M.map fixL).map lnD) ?_ ?_)
  · rw [List.map_map]
    refine lcG_map (fun ws => lnD (fixL ws)) M (by omega) fun ws hws => ?_
    refine bto (dNe_ln (hM ws hws).1) ?_
    unfold fixL
    by_cases e : ws = []
    · rw [decide_eq_true e, if_pos e]; rfl
    · rw [decide_eq_false e, if_neg e]; rfl
  · refine bto (show dSeqX (.lst ((M.map fixL).map lnD)) = some ((M.map fixL).map lnD) from rfl) (bto (joins_v hL hl2 fun ws h => bto (join1 h) rfl) (bto (join2 hL hl2) (bto (dNe_ss _ _) ?_)))
    by_cases ht : txt (M.map fixL) = ""
    · rw [decide_eq_true ht, ht]
      refine bto (x := .tup []) rfl ?_
      refine bto (a := told46 (.str "")) told_void ?_
      exact bto (dNe_bD46 []) rfl
    · rw [decide_eq_false ht, Bool.not_false, cond_true]
      obtain ⟨r, h1, h2, h3⟩ := told_v hL hl2 hne2 ht
      refine bto (x := r) (bto h1 rfl) ?_
      refine bto (a := told46 (.str (txt (M.map fixL)))) h2 ?_
      exact bto h3 rfl
theorem cutT {α : Type} (f : α → D) (X : List α) (k : Nat) : dCutS (.lst (X.map f)) none (some (k : Int)) = some (.lst ((X.take k).map f)) := by
  show dCutX (.lst (X.map f)) none (some (k : Int)) = _
  unfold dCutX DL.cutD
  simp only [HT.sIx_nat, List.length_map]
  refine congrArg (fun z => some (D.lst z)) ?_
  show ((X.map f).drop 0).take (min k X.length - 0) = _
  rw [List.drop_zero, Nat.sub_zero, List.map_take]
  by_cases h : k ≤ X.length
  · rw [Nat.min_eq_left h]
  · rw [Nat.min_eq_right (by omega), List.take_of_length_le (by simp), List.take_of_length_le (by simp; omega)]
theorem cutF {α : Type} (f : α → D) (X : List α) (k : Nat) : dCutS (.lst (X.map f)) (some (k : Int)) none = some (.lst ((X.drop k).map f)) := by
  show dCutX (.lst (X.map f)) (some (k : Int)) none = _
  unfold dCutX DL.cutD
  simp only [HT.sIx_nat, List.length_map]
  refine congrArg (fun z => some (D.lst z)) ?_
  show ((X.map f).drop (min k X.length)).take (X.length - min k X.length) = _
  rw [List.map_drop]
  by_cases h : k ≤ X.length
  · rw [Nat.min_eq_left h, List.take_of_length_le (by simp)]
  · rw [Nat.min_eq_right (by omega), List.drop_of_length_le (by simp), List.drop_of_length_le (by simp; omega)]
    simp
theorem lput46 {ds : List D} {k : Nat} (h : k < ds.length) (d : D) : lPut ds (.int (k : Nat)) d = some (ds.set k d) := by
  have e : ixN ds.length (k : Int) = some k := by
    unfold ixN
    simp
    omega
  show (ixN ds.length (k : Int)).bind _ = _
  rw [e]; rfl
theorem pick_gv {st : List D} (h : TkOk st) {ds : List D} (h0 : 0 < ds.length) (h1 : ds.length ≤ 1000) : Gv (m_law_pick st (.lst ds)) (fun t => ∃ d st', t = (d, st') ∧ d ∈ ds ∧ TkOk st') := by
  unfold m_law_pick
  obtain ⟨v, st1, e1, h2, k1⟩ := next_n h h0 (by omega)
  refine gv_bind (dLen_l _) (gv_bind e1 ?_)
  simp only []
  refine gv_bind ((dIx_l _ _).trans (atI_get' (List.getElem?_eq_getElem h2))) (gv_some ⟨_, _, rfl, List.getElem_mem h2, k1⟩)
theorem strI46 {a : Int} (h0 : 0 ≤ a) (h : a < 10000000000) : dStrI (.int a) = some (.str (numS a)) := if_pos (by
  by_cases hz : a.natAbs = 0
  · rw [hz]; decide
  · rw [Nat.log2_lt hz]
    exact Nat.lt_of_lt_of_le (show a.natAbs < 2 ^ 40 by omega) (Nat.pow_le_pow_right (by decide) (by decide)))
theorem text_txt (S : List Stone) : textS S = txt (S.map lineW) := by
  unfold textS txt
  rw [List.map_map]
  refine congrArg (Txt.join "\n") (List.map_congr_left fun s _ => lineS_eq s)
theorem set_map46 {α : Type} (f : α → D) (X : List α) (k : Nat) (x : α) : (X.map f).set k (f x) = (X.set k x).map f := by rw [List.map_set]
theorem valid_snoc {l : List Stone} (hv : Valid l) (hl : l.length ≤ 39) {s : Stone} (h : ∀ t ∈ l, t.1 < s.1) (hs : 0 ≤ s.1 ∧ s.1 ≤ 1000000000 ∧ 1 ≤ s.2 ∧ s.2 ≤ 1000000000) : Valid (l ++ [s]) := by
  refine ⟨by rw [List.length_append, List.length_singleton]; omega, okSt_iff.mpr ⟨?_, fun t ht => ?_⟩⟩
  · rw [List.pairwise_append]
    exact ⟨(okSt_iff.mp hv.2).1, by simp, fun t ht u hu => by rw [List.mem_singleton.mp hu]; exact h t ht⟩
  · rcases List.mem_append.mp ht with ht | ht
    · exact (okSt_iff.mp hv.2).2 t ht
    · rw [List.mem_singleton.mp ht]; exact hs
theorem lnS_one (k : Nat) : lnS (lineW ((k : Int), 1)) = ("stone " : Str) ++ numS (k : Int) ++ (" 1" : Str) := by
  refine TL.ext_tl ?_
  unfold lnS
  rw [TL.join_eq]
  show TL.tl (("stone" : Str) ++ (" " : Str) ++ (numS (k : Int) ++ (" " : Str) ++ numS 1)) = _
  have a : TL.tl ("stone " : Str) = [115, 116, 111, 110, 101, 32] := by rw [TL.tl_ofString]; rfl
  have b : TL.tl (" 1" : Str) = [32, 49] := by rw [TL.tl_ofString]; rfl
  have c : TL.tl (numS 1) = [49] := by decide +kernel
  simp only [TL.tl_append, tl_stone, tl_blank, a, b, c, List.append_assoc, List.cons_append, List.nil_append]
theorem addS_ss {x y : Str} (h : x.length + y.length ≤ 10000) : dAddS (.str x) (.str y) = some (.str (x ++ y)) := if_pos (sl_big h)
def many (n : Nat) : List Stone := (List.range n).map fun k : Nat => (((k : Nat) : Int), (1 : Int))
theorem firstB_none {S : List Stone} (h : firstB 0 0 S = none) : Valid S := by
  have sp := firstB_spec S [] ⟨by simp, trivial⟩
  rw [List.nil_append] at sp
  change (match firstB 0 0 S with | some k => ∃ l s r, S = l ++ s :: r ∧ Valid l ∧ l.length = k ∧ (l.length = 40 ∨ m_is_stone (stD s) (.int (nxA 0 l)) = some (.bl false)) | none => Valid S) at sp
  rw [h] at sp
  exact sp
theorem last46 {n : Nat} (hn : n = 40 ∨ n = 41) : ∃ r, tellM ((x_parse_row (.str (txt ((many n).map lineW))) : Option XN).bind fun x_ => some (x_, (PUnit.unit : PUnit))) m_su_law_told ((m_parse_row (.str (txt ((many n).map lineW)))).bind fun t171 => (m_Row_len t171).bind fun t172 => (dNat t172).bind fun t173 => some (t173, PUnit.unit)) = some (r, PUnit.unit) ∧
    dInT r (.tup [(.int 40), (.tup [(.str "error"), (.str "InvalidRow"), (.lst [(.int 40)])])]) = some true := by
  have hb : ∀ s ∈ many n, Big s := by
    intro s hs
    obtain ⟨k, hk, rfl⟩ := List.mem_map.mp hs
    have := List.mem_range.mp hk
    exact ⟨⟨by simp, by simp; omega⟩, by simp, by simp⟩
  have hl : (many n).length ≤ 50 := by unfold many; rw [List.length_map, List.length_range]; omega
  have hne : many n ≠ [] := by
    intro e
    have := congrArg List.length e
    unfold many at this
    rw [List.length_map, List.length_range] at this
    simp at this
    omega
  have ht : txt ((many n).map lineW) ≠ "" := by
    rw [← text_txt]
    exact textS_ne hne
  have x := xparse_rows hb hl hne ht
  have okE : (D.tup [(.int 40), (.tup [(.str "error"), (.str "InvalidRow"), (.lst [(.int 40)])])]).ok = true := by decide +kernel
  have okR : (erD "InvalidRow" [40]).ok = true := by decide +kernel
  rcases hn with rfl | rfl
  · have e : firstB 0 0 (many 40) = none := by decide +kernel
    have hv : Valid (many 40) := firstB_none e
    rw [e] at x
    refine ⟨.int 40, (tell_ok x).trans ?_, ?_⟩
    · rw [mparse_rows hv hb hne ht]; rfl
    · refine (if_pos ⟨rfl, Nat.le_of_ble_eq_true rfl, okE, Nat.le_of_ble_eq_true rfl⟩).trans ?_
      simp
  · have e : firstB 0 0 (many 41) = some 40 := by decide +kernel
    rw [e] at x
    refine ⟨erD "InvalidRow" [40], tell_bad x (su_row 40), ?_⟩
    refine (if_pos ⟨okR, Nat.le_of_ble_eq_true rfl, okE, Nat.le_of_ble_eq_true rfl⟩).trans ?_
    have hm : erD "InvalidRow" [40] ∈ [(.int 40), (.tup [(.str "error"), (.str "InvalidRow"), (.lst [(.int 40)])])] := List.mem_cons_of_mem _ (List.mem_cons_self ..)
    simp [hm]
theorem law_gv (ns : List Int) : Gv (m_law (.lst (ns.map D.int))) (fun t => t = .bl true) := by
  unfold m_law
  obtain ⟨st0, e0, k0⟩ := dice_ok ns
  refine gv_bind e0 (gv_bind (dRange1_n (n := 6) (by decide)) ?_)
  refine gv_forF (e := fun k : Nat => D.int (k : Nat)) (fun _ st => TkOk st) k0 ?_ ?_
  · intro _ r st hst
    refine gv_gv (stones_gvP hst (most := 8) (by decide)) ?_
    rintro _ ⟨l, st1, rfl, k1, hv0, hn0, hp0⟩
    simp only []
    refine gv_bind pow9 ?_
    refine gv_gv (pick_gv k1 (ds := [D.int 60, .int 1000000000]) (by decide) (by decide)) ?_
    rintro _ ⟨p, st2, rfl, hp, k2⟩
    simp only []
    refine gv_bind pow9 ?_
    refine gv_gv (pick_gv k2 (ds := [D.int 1, .int 1000000000]) (by decide) (by decide)) ?_
    rintro _ ⟨h, st3, rfl, hh, k3⟩
    simp only []
    obtain ⟨pi, rfl, hpi⟩ : ∃ i : Int, p = .int i ∧ 60 ≤ i ∧ i ≤ 1000000000 := by
      simp only [List.mem_cons, List.not_mem_nil, or_false] at hp
      rcases hp with rfl | rfl
      · exact ⟨_, rfl, by decide, by decide⟩
      · exact ⟨_, rfl, by decide, by decide⟩
    obtain ⟨hi, rfl, hhi⟩ : ∃ i : Int, h = .int i ∧ 1 ≤ i ∧ i ≤ 1000000000 := by
      simp only [List.mem_cons, List.not_mem_nil, or_false] at hh
      rcases hh with rfl | rfl
      · exact ⟨_, rfl, by decide, by decide⟩
      · exact ⟨_, rfl, by decide, by decide⟩
    obtain ⟨S, hS⟩ : ∃ S, S = l ++ [((pi, hi) : Stone)] := ⟨_, rfl⟩
    have hv : Valid S := by
      rw [hS]
      refine valid_snoc hv0 (by omega) (fun t ht => ?_) ⟨by simp only; omega, hpi.2, hhi⟩
      have := hp0 t ht
      simp only
      omega
    have hn : 0 < S.length ∧ S.length ≤ 9 := by rw [hS, List.length_append, List.length_singleton]; omega
    have hb : ∀ s ∈ S, Big s := fun s hs => by
      have := hv.small s hs
      exact ⟨⟨this.1.1, by have := this.1.2; omega⟩, this.2.1, by have := this.2.2; omega⟩
    have hne : S ≠ [] := by
      intro e
      rw [e] at hn
      simp at hn
    refine gv_bind (a := .lst (S.map stD)) ((catX_l (by simp; omega)).trans (by rw [hS, List.map_append]; rfl)) ?_
    clear hS
    refine gv_bind (show dSeqX (.lst (S.map stD)) = some (S.map stD) from rfl) ?_
    refine gv_bind (a := (S.map lineW).map lnD) ?_ ?_
    · rw [List.map_map]
      refine lcG_map (fun s => lnD (lineW s)) S (by omega) fun s hs => ?_
      have q := hb s hs
      exact bto (stD_un s) (bto (strI46 q.1.1 q.1.2) (bto (strI46 q.2.1 q.2.2) rfl))
    have hL := ok_lines hb
    have hW : ∀ ws ∈ S.map lineW, Ws ws := fun ws hws => ⟨(hL ws hws).2.1, (hL ws hws).2.2⟩
    have h3 : ∀ ws ∈ S.map lineW, ws.length = 3 := fun ws hws => by
      obtain ⟨s, _, rfl⟩ := List.mem_map.mp hws
      rfl
    have hml : (S.map lineW).length = S.length := List.length_map ..
    have htx := text_txt S
    refine gv_bind (show dSeqX (.lst ((S.map lineW).map lnD)) = some ((S.map lineW).map lnD) from rfl) ?_
    refine gv_bind (joins_v hL (by omega) fun ws h => bto (join1 h) rfl) (gv_bind (join2 hL (by omega)) ?_)
    refine gv_bind (show decStr (.str (txt (S.map lineW))) = some (txt (S.map lineW)) from rfl) ?_
    rw [← htx]
    refine gv_bind (made_ok hv) (gv_bind (format_v hv) (gv_bind (dNe_ss _ _) ?_))
    rw [decide_eq_true rfl]
    refine gv_bind (a := false) ?_ (gv_cF ?_)
    · refine bto (parse_v hv) (bto (show m_Row_stones (bD S) = some (bD S) from rfl) (bto (show dTuple (.lst (S.map stD)) = some (bD S) from if_pos (by rw [sizeLine_eq, List.length_map]; omega)) (bto (dNe_bD46 S) rfl)))
    generalize S.map lineW = M at hL hW h3 hml
    clear htx
    have hm : M.length ≤ 9 := by omega
    have hmn : M ≠ [] := by
      intro e
      rw [e] at hml
      simp at hml
      omega
    obtain ⟨k, st4, e4, hk, k4⟩ := next_k k3 M.length (by omega) (by omega) (i := ((M.map lnD).length : Nat)) (by rw [List.length_map])
    refine gv_bind e4 ?_
    simp only []
    have hat : lIx (M.map lnD) (.int (k : Nat)) = some (lnD M[k]) := (lIx_i _ _).trans (atI_get' (by rw [List.getElem?_map, List.getElem?_eq_getElem hk]; rfl))
    have hin : M[k] ∈ M := List.getElem_mem hk
    have l3 := h3 _ hin
    have w3 := (hW _ hin).1
    refine gv_bind hat (gv_bind (lnD_len _) (gv_bind (addS_ii _ _) ?_))
    obtain ⟨j, st5, e5, hj, k5⟩ := next_k k4 4 (by decide) (by decide) (i := ((M[k].length : Nat) : Int) + 1) (by rw [l3]; rfl)
    refine gv_bind e5 ?_
    simp only []
    obtain ⟨c, st6, e6, hc, k6⟩ := next_k k5 4 (by decide) (by decide) (i := 4) rfl
    refine gv_bind e6 ?_
    simp only []
    refine gv_gv (pick_gv k6 (ds := odds.map D.str) (by decide) (by decide)) ?_
    rintro _ ⟨od, st7, rfl, hod, k7⟩
    obtain ⟨w, hw, rfl⟩ := List.mem_map.mp hod
    have ww := wd_odd w hw
    simp only []
    have kl : k < (M.map lnD).length := by rw [List.length_map]; exact hk
    -- a line put in place of the k-th
    have put : ∀ (ws : List Str), Ws ws → ∀ ws' ∈ M.set k ws, Ws ws' := fun ws hws ws' h => (List.mem_or_eq_of_mem_set h).elim (hW ws') fun e => e ▸ hws
    have fin : ∀ (ws : List Str), Ws ws → Gv (tail46 (.lst ((M.map lnD).set k (lnD ws))) st7) (fun fl => ∃ s', fl = .nx s' ∧ TkOk s') := fun ws hws => by
      rw [set_map46, tail46_v (put ws hws) (by rw [List.length_set]; omega) (by
        intro e
        have := congrArg List.length e
        rw [List.length_set] at this
        simp at this
        exact hmn this)]
      exact gv_some ⟨_, rfl, k7⟩
    have tk : ∀ n, Ws (M[k].take n) := fun n => ⟨fun x hx => w3 x (List.mem_of_mem_take hx), by rw [List.length_take]; omega⟩
    have both : ∀ n m : Nat, Ws (M[k].take n ++ [w] ++ M[k].drop m) := fun n m => ⟨fun x hx => by
      rcases List.mem_append.mp hx with hx | hx
      · rcases List.mem_append.mp hx with hx | hx
        · exact w3 x (List.mem_of_mem_take hx)
        · rw [List.mem_singleton.mp hx]; exact ww
      · exact w3 x (List.mem_of_mem_drop hx), by simp; omega⟩
    have cat1 : ∀ n : Nat, dAddS (lnD (M[k].take n)) (.lst [.str w]) = some (lnD (M[k].take n ++ [w])) := fun n => (catX_l (by simp; omega)).trans (by unfold lnD; rw [List.map_append]; rfl)
    have cat2 : ∀ n m : Nat, dAddS (lnD (M[k].take n ++ [w])) (lnD (M[k].drop m)) = some (lnD (M[k].take n ++ [w] ++ M[k].drop m)) := fun n m => (catX_l (by simp; omega)).trans (by unfold lnD; rw [List.map_append (l₁ := M[k].take n ++ [w])])
    have hc4 : c = 0 ∨ c = 1 ∨ c = 2 ∨ c = 3 := by omega
    rcases hc4 with rfl | rfl | rfl | rfl
    · refine gv_bind (dEq_ii _ _) (gv_cT ?_)
      refine gv_bind hat (gv_bind (decInt_i _) (gv_bind (cutT D.str M[k] j) (gv_bind (lput46 kl _) ?_)))
      exact fin _ (tk j)
    · refine gv_bind (dEq_ii _ _) (gv_cF (gv_bind (dEq_ii _ _) (gv_cT ?_)))
      refine gv_bind hat (gv_bind (decInt_i _) (gv_bind (cutT D.str M[k] j) (gv_bind (cat1 j) (gv_bind hat (gv_bind (addS_ii _ _) (gv_bind (decInt_i _) (gv_bind (cutF D.str M[k] (j + 1)) (gv_bind (cat2 j (j + 1)) (gv_bind (lput46 kl _) ?_)))))))))
      exact fin _ (both j (j + 1))
    · refine gv_bind (dEq_ii _ _) (gv_cF (gv_bind (dEq_ii _ _) (gv_cF (gv_bind (dEq_ii _ _) (gv_cT ?_)))))
      refine gv_bind hat (gv_bind (decInt_i _) (gv_bind (cutT D.str M[k] j) (gv_bind (cat1 j) (gv_bind hat (gv_bind (decInt_i _) (gv_bind (cutF D.str M[k] j) (gv_bind (cat2 j j) (gv_bind (lput46 kl _) ?_))))))))
      exact fin _ (both j j)
    · refine gv_bind (dEq_ii _ _) (gv_cF (gv_bind (dEq_ii _ _) (gv_cF (gv_bind (dEq_ii _ _) (gv_cF ?_)))))
      refine gv_bind (decInt_i _) (gv_bind (cutT lnD M k) ?_)
      refine gv_gv (pick_gv k7 (ds := M.map lnD) (by rw [List.length_map]; omega) (by rw [List.length_map]; omega)) ?_
      rintro _ ⟨d, st8, rfl, hd, k8⟩
      obtain ⟨ws, hws, rfl⟩ := List.mem_map.mp hd
      simp only []
      have e9 : dAddS (.lst ((M.take k).map lnD)) (.lst [lnD ws]) = some (.lst ((M.take k ++ [ws]).map lnD)) := (catX_l (by simp; omega)).trans (by rw [List.map_append]; rfl)
      have e10 : dAddS (.lst ((M.take k ++ [ws]).map lnD)) (.lst ((M.drop k).map lnD)) = some (.lst ((M.take k ++ [ws] ++ M.drop k).map lnD)) := (catX_l (by simp; omega)).trans (by rw [List.map_append (l₁ := M.take k ++ [ws])])
      refine gv_bind (show dList (lnD ws) = some (lnD ws) from rfl) (gv_bind e9 (gv_bind (decInt_i _) (gv_bind (cutF lnD M k) (gv_bind e10 ?_))))
      have t := tail46_v (M := M.take k ++ [ws] ++ M.drop k) (fun v hv => by
        rcases List.mem_append.mp hv with hv | hv
        · rcases List.mem_append.mp hv with hv | hv
          · exact hW v (List.mem_of_mem_take hv)
          · rw [List.mem_singleton.mp hv]; exact hW ws hws
        · exact hW v (List.mem_of_mem_drop hv)) (by simp; omega) (by simp) st8
      have g : Gv (tail46 (.lst ((M.take k ++ [ws] ++ M.drop k).map lnD)) st8) (fun fl => ∃ s', fl = .nx s' ∧ TkOk s') := by
        rw [t]
        exact gv_some ⟨_, rfl, k8⟩
      exact g
  · intro st hst
    obtain ⟨v, st1, e1, hv, k1⟩ := next_k hst 2 (by decide) (by decide) (i := 2) rfl
    refine gv_bind e1 ?_
    simp only []
    refine gv_bind (addS_ii _ _) ?_
    have en : (40 : Int) + (v : Nat) = ((40 + v : Nat) : Int) := by omega
    rw [en]
    refine gv_bind (dRange1_n (by omega)) ?_
    refine gv_bind (a := ((many (40 + v)).map lineW).map fun ws => D.str (lnS ws)) ?_ ?_
    · unfold many
      rw [List.map_map, List.map_map]
      refine lcG_map (fun k : Nat => D.str (lnS (lineW ((k : Int), 1)))) (List.range (40 + v)) (by rw [List.length_range]; omega) fun k hk => ?_
      have hk2 := List.mem_range.mp hk
      have q := numS_len (i := (k : Int)) (by omega) (by omega)
      have a : ("stone " : Str).length = 6 := by decide +kernel
      have b : (" 1" : Str).length = 2 := by decide +kernel
      refine bto (strI46 (by omega) (by omega)) (bto (addS_ss (by omega)) (bto (addS_ss (by rw [str_app]; omega)) ?_))
      rw [lnS_one]
    have hb : ∀ s ∈ many (40 + v), Big s := by
      intro s hs
      obtain ⟨k, hk, rfl⟩ := List.mem_map.mp hs
      have := List.mem_range.mp hk
      exact ⟨⟨by simp, by simp; omega⟩, by simp, by simp⟩
    refine gv_bind (join2 (ok_lines hb) (by unfold many; simp; omega)) ?_
    obtain ⟨r, h1, h2⟩ := last46 (n := 40 + v) (by omega)
    refine gv_bind h1 ?_
    simp only []
    refine gv_bind h2 (gv_bind (a := true) ?_ (gv_some rfl))
    rw [cond_true]
    have e0 : m_Row_init (.tup []) = some (bD []) := init_v (l := []) ⟨by simp, trivial⟩
    have ef : m_format_row (bD []) = some (.str "") := (format_v (l := []) ⟨by simp, trivial⟩).trans rfl
    have ep : m_parse_row (.str "") = some (bD []) := parse_v (l := []) ⟨by simp, trivial⟩
    refine bto e0 (bto ef (bto (dEq_ss _ _) (bto (x := true) ?_ rfl)))
    rw [decide_eq_true rfl, cond_true]
    refine bto ep (bto (show m_Row_stones (bD []) = some (bD []) from rfl) (bto (x := true) ?_ rfl))
    exact (dEq_dd rfl rfl rfl (by decide) (by decide)).trans (by simp)
theorem law_true (ns : List Int) : m_law (.lst (ns.map D.int)) = some (.bl true) := by
  obtain ⟨t, h, rfl⟩ := law_gv ns
  exact h
theorem facts {P : Program} {w : World} {K : PySem.W.Frag} {h : Heap} {mg : Str → Option Value} {f : Addr} (X : K.In h) (G : h.Ns mainGlobals mg) (hfa : mg ("law" : Str) = some (.ref f)) (c : HK.SaysM Pr.hfa hfn K) :
    ∃ fd : FuncData, (ltL.map fun g => tabA K (He.ga K g)).Nodup ∧ (∀ g ∈ ltL, PySem.W.CodeHd h (codeA K (He.ga K g)) (tabA K (He.ga K g))) ∧ (∀ (s : Shared) (v : Value), BindsTo s fd ⟨[v], []⟩ [("_law_script", v)]) ∧ ∀ base : Heap, K.In base → base.Ns mainGlobals mg → AllTB base mg K → FnOk P w K mg base CX0 9 f fd ["_law_script"] (spF K (R_law (He.ga K) (fun f => tabA K (He.ga K f)))) := by
  have T := hTx X G c
  obtain ⟨fd, F⟩ := T.d_law
  have e := hfa.symm.trans T.g_law
  cases e
  have b := FunD.bindsA (ps := ["_law_script"]) F fun _ _ _ _ _ _ us hl => match us, hl with | [_], _ => rfl
  exact ⟨fd, T.tbn, fun g hg => PySem.W.codeHd_of_K X (T.tbs g hg), fun s v => b s [v] rfl, fun base _ _ TBA => ok_law T TBA F⟩
end Pr
open PySem PySem.W PySem.Calls PyProof.Rows
theorem PySem.Challenge.cw_rowdominoes_k46_notation_holds : PySem.Challenge.rw_rowdominoes_k46_notation.Holds := by
  w_on; o_law
  refine HandSHeadRun.head_any (r := Pr.hR) (q := view Pr.hR.prog [48]) (H := Pr.hhk) (ob := Pr.hob) (M := 12000) (loose := Pr.hloose) (d := HandSHeadRun.topDef Pr.hR.prog 48) (kwd := []) Pr.hob_eq
    (by kernel_rfl) (fun s => by kernel_rfl) Pr.hrun (by kernel_rfl) (by kernel_rfl) (by kernel_rfl) (by rfl) (by first | assumption | decide +kernel) (by decide +kernel) ⟨rfl, rfl, rfl, rfl, rfl, by decide +kernel⟩ ?hw ?hc
  case hw => w_witness2
  case hc =>
    refine DL.walk_tab (l := PySem.Challenge.rw_rowdominoes_k46_notation) (n := 63) (k := 9) (x := "_law_script") (CX := fun _ => L2.CX0) rfl (by decide) (by kernel_rfl) ⟨rfl, by decide, by decide⟩ ?F (fun _ _ _ _ _ z => z)
    intro w mg fa h Y G hmg0
    obtain ⟨K, KX, c, tb⟩ := Y
    have hmg : mg ("law" : PySem.Str) = some (.ref fa) := by
      have e : (HandSHeadRun.topDef Pr.hR.prog 48).name = ("law" : PySem.Str) := by kernel_rfl
      rw [← e]
      exact hmg0
    obtain ⟨fd, nd, hC, hb, hF⟩ := Pr.facts (P := (PySem.Challenge.rw_rowdominoes_k46_notation).prog) (w := w) KX G hmg c
    have t0 := fun (g : PySem.Str) (hg : g ∈ Pr.ltL) => tb (fun K => DL.tabA K (He.ga K g)) (List.mem_map.mpr ⟨g, hg, rfl⟩)
    refine ⟨K, KX, fd, Pr.ltL.map fun g => (DL.codeA K (He.ga K g), DL.tabA K (He.ga K g)), DL.spF K (Pr.R_law (He.ga K) (fun f => DL.tabA K (He.ga K f))), ?_, ?_, ?_, hb, ?_, fun base h1 h2 h3 => hF base h1 h2 fun g hg => h3 (DL.codeA K (He.ga K g), DL.tabA K (He.ga K g)) (List.mem_map.mpr ⟨g, hg, rfl⟩)⟩
    · intro p hp; obtain ⟨g, hg, e⟩ := List.mem_map.mp hp; subst e; exact (t0 g hg).1
    · intro p hp; obtain ⟨g, hg, e⟩ := List.mem_map.mp hp; subst e; exact (t0 g hg).2
    · intro p hp; obtain ⟨g, hg, e⟩ := List.mem_map.mp hp; subst e; exact hC g hg
    · intro H a ns hl _ hP hS
      refine DL.law_sps (ts := Pr.ltL.map fun g => (DL.tabA K (He.ga K g), DL.lamQ g)) H a ns (by rw [List.map_map]; exact nd) (fun p hp => ?_) hS ⟨_, rfl, rfl, rfl, _, rfl, Pr.law_true ns⟩
      obtain ⟨g, hg, e⟩ := List.mem_map.mp hp
      subst e
      exact hP (DL.codeA K (He.ga K g), DL.tabA K (He.ga K g)) (List.mem_map.mpr ⟨g, hg, rfl⟩)
