import PyProof.Rows.All
import Wide.All
import OpenK.AllK
import Wide.FinOn
import KE.KStateDown
import Lean
import HandS.Base
import HandS.Call
import HandS.List
import HandS.Comp
import HandS.Dict
import HandS.Iter
import HandS.Text
import HandS.Ends
import HandS.More
import HandS.Exc
import HandS.Words
import HandS.WordsList
import HandS.WordsExc
import HandS.Defaults
import HandS.Star
import HandS.Walk
import HandS.Property
import HandS.Style
import HandS.IsInst
import KE.GoesMore
import KE.GoesEnum
import KE.KUnpack
import KE.KOpsOwn
import PyProof.Rows.MatchSeqLen
import HandS.Strs
import HandS.SortInts
import HandS.SetFor
import HandS.TupAny
import HandS.Deep
import PySem.Challenge.RW_rowdominoes_k17_whole_stones_that_are_ta
import HandS.Head0
import HandS.Head1
import HandS.Head2
import HandS.HeadEnd
import HandS.HeadHook1
import HandS.HeadHook2
import HandS.HeadNt
set_option Elab.async false
set_option linter.all false
set_option maxRecDepth 100000
set_option maxHeartbeats 4000000
namespace DL
open PySem PySem.Spec PyProof.Rows L2

/-! ### plain data -/
inductive D where
  | non | bl (b : Bool) | int (i : Int) | str (x : Str) | byt (b : Array UInt8)
  | lst (ds : List D) | tup (ds : List D)
  | ins (C : Addr) (ns : List Str) (ds : List D)
  | dic (ks : List Key) (ds : List D)
  | ref (a : Addr) | ty (n : String)

def Ex (H H' : Hp) : Prop := ∀ a o, H a = some o → H' a = some o
theorem Ex.refl (H : Hp) : Ex H H := fun _ _ h => h
theorem Ex.trans {H H1 H2 : Hp} (a : Ex H H1) (b : Ex H1 H2) : Ex H H2 := fun x o h => b x o (a x o h)
theorem Ex.new {H : Hp} {p : Addr} {o : HO} (h : H p = none) : Ex H (upd H p o) := fun a u e => by
  rw [upd_ne (ne_of_none e h)]; exact e
theorem Ex.mut {H H' : Hp} {p : Addr} {o : HO} (e : Ex H H') (h : H p = none) : Ex H (upd H' p o) := fun a u ha => by
  rw [upd_ne (ne_of_none ha h)]; exact e a u ha
theorem Ex.both {H H' : Hp} {p : Addr} {o : HO} (e : Ex H H') : Ex (upd H p o) (upd H' p o) := fun a u ha => by
  by_cases h : a = p
  · subst h; rw [upd_same] at ha ⊢; exact ha
  · rw [upd_ne h] at ha ⊢; exact e a u ha
theorem Ex.back {H H' : Hp} {p : Addr} (e : Ex H H') (h : H' p = none) : H p = none := by
  cases h1 : H p with
  | none => rfl
  | some o => rw [e p o h1] at h; cases h
theorem ex_rd {H H' : Hp} {a : Addr} {u : HO} (e : Ex H H') (h : Rd H a u) : Rd H' a u := by
  rcases h with h | ⟨o, h⟩
  · exact Or.inl (e a _ h)
  · exact Or.inr ⟨o, e a _ h⟩
theorem ex_l {K : PySem.W.Frag} {H H' : Hp} {a : Addr} {xs : List V} (e : Ex H H') (h : SqL K H a xs) : SqL K H' a xs := by
  rcases h with h | h
  · exact Or.inl (ex_rd e h)
  · exact Or.inr h
theorem ex_t {K : PySem.W.Frag} {H H' : Hp} {a : Addr} {xs : List V} (e : Ex H H') (h : SqT K H a xs) : SqT K H' a xs := by
  rcases h with h | h
  · exact Or.inl (ex_rd e h)
  · exact Or.inr h

mutual
/-- a value stands for data, by what the heap S holds for good -/
inductive Rp (K : PySem.W.Frag) (S : Hp) : V → D → Prop
  | non : Rp K S .non .non
  | bl (b : Bool) : Rp K S (.bl b) (.bl b)
  | int (i : Int) : Rp K S (.int i) (.int i)
  | str (x : Str) : Rp K S (.str x) (.str x)
  | byt (b : Array UInt8) : Rp K S (.byt b) (.byt b)
  | lst {a : Addr} {vs : List V} {ds : List D} : SqL K S a vs → RpAll K S vs ds → Rp K S (.ref a) (.lst ds)
  | tup {a : Addr} {vs : List V} {ds : List D} : SqT K S a vs → RpAll K S vs ds → Rp K S (.ref a) (.tup ds)
  | ins {a C dx : Addr} {ns : List Str} {vs : List V} {ds : List D} : S a = some (.ins C dx (ns.zip vs)) → ns.length = vs.length → RpAll K S vs ds → Rp K S (.ref a) (.ins C ns ds)
  | dic {a : Addr} {ks : List Key} {vs : List V} {ds : List D} : S a = some (.dK (ks.zip vs)) → ks.length = vs.length → RpAll K S vs ds → Rp K S (.ref a) (.dic ks ds)
  | ref (a : Addr) : Rp K S (.ref a) (.ref a)
  | ty (n : String) : Rp K S (.ty n) (.ty n)
inductive RpAll (K : PySem.W.Frag) (S : Hp) : List V → List D → Prop
  | nil : RpAll K S [] []
  | cons {v : V} {vs : List V} {d : D} {ds : List D} : Rp K S v d → RpAll K S vs ds → RpAll K S (v :: vs) (d :: ds)
end
section
variable {K : PySem.W.Frag} {S S' : Hp}
theorem Rp.mono (e : Ex S S') {v : V} {d : D} (h : Rp K S v d) : Rp K S' v d :=
  Rp.rec (motive_1 := fun v d _ => Rp K S' v d) (motive_2 := fun vs ds _ => RpAll K S' vs ds)
    .non .bl .int .str .byt (fun q _ ih => .lst (ex_l e q) ih) (fun q _ ih => .tup (ex_t e q) ih)
    (fun q l _ ih => .ins (e _ _ q) l ih) (fun q l _ ih => .dic (e _ _ q) l ih) .ref .ty .nil (fun _ _ a b => .cons a b) h
theorem RpAll.mono (e : Ex S S') : ∀ {vs : List V} {ds : List D}, RpAll K S vs ds → RpAll K S' vs ds
  | _, _, .nil => .nil
  | _, _, .cons a b => .cons (a.mono e) (RpAll.mono e b)
theorem RpAll.length : ∀ {vs : List V} {ds : List D}, RpAll K S vs ds → vs.length = ds.length
  | _, _, .nil => rfl
  | _, _, .cons _ b => by simp [b.length]
theorem RpAll.append : ∀ {vs ws : List V} {ds es : List D}, RpAll K S vs ds → RpAll K S ws es → RpAll K S (vs ++ ws) (ds ++ es)
  | _, _, _, _, .nil, h => h
  | _, _, _, _, .cons a b, h => .cons a (RpAll.append b h)
theorem RpAll.get : ∀ {vs : List V} {ds : List D} {i : Nat} {v : V}, RpAll K S vs ds → vs[i]? = some v → ∃ d, ds[i]? = some d ∧ Rp K S v d
  | _, _, _, _, .nil, e => by simp at e
  | _, _, 0, _, .cons a _, e => by simp at e; subst e; exact ⟨_, rfl, a⟩
  | _, _, i + 1, _, .cons _ b, e => by
    obtain ⟨d, h1, h2⟩ := b.get (i := i) (by simpa using e)
    exact ⟨d, by simpa using h1, h2⟩
theorem RpAll.getD : ∀ {vs : List V} {ds : List D} {i : Nat} {d : D}, RpAll K S vs ds → ds[i]? = some d → ∃ v, vs[i]? = some v ∧ Rp K S v d
  | _, _, _, _, .nil, e => by simp at e
  | _, _, 0, _, .cons a _, e => by simp at e; subst e; exact ⟨_, rfl, a⟩
  | _, _, i + 1, _, .cons _ b, e => by
    obtain ⟨d, h1, h2⟩ := b.getD (i := i) (by simpa using e)
    exact ⟨d, by simpa using h1, h2⟩
theorem RpAll.drop : ∀ (n : Nat) {vs : List V} {ds : List D}, RpAll K S vs ds → RpAll K S (vs.drop n) (ds.drop n)
  | 0, _, _, h => h
  | _ + 1, _, _, .nil => .nil
  | n + 1, _, _, .cons _ b => RpAll.drop n b
theorem RpAll.take : ∀ (n : Nat) {vs : List V} {ds : List D}, RpAll K S vs ds → RpAll K S (vs.take n) (ds.take n)
  | 0, _, _, _ => .nil
  | _ + 1, _, _, .nil => .nil
  | n + 1, _, _, .cons a b => .cons a (RpAll.take n b)
theorem RpAll.reverse : ∀ {vs : List V} {ds : List D}, RpAll K S vs ds → RpAll K S vs.reverse ds.reverse
  | _, _, .nil => .nil
  | _, _, .cons a b => by
    rw [List.reverse_cons, List.reverse_cons]
    exact b.reverse.append (.cons a .nil)
theorem RpAll.set : ∀ {vs : List V} {ds : List D} (i : Nat) {v : V} {d : D}, RpAll K S vs ds → Rp K S v d → RpAll K S (vs.set i v) (ds.set i d)
  | _, _, _, _, _, .nil, _ => .nil
  | _, _, 0, _, _, .cons _ b, h => .cons h b
  | _, _, i + 1, _, _, .cons a b, h => .cons a (RpAll.set i b h)
theorem RpAll.ints : ∀ {ns : List Int} {vs : List V}, RpAll K S vs (ns.map D.int) → vs = ns.map V.int
  | [], _, h => by cases h; rfl
  | n :: ns, _, h => by
    cases h with
    | cons a b =>
      cases a
      rw [RpAll.ints b]; rfl
theorem RpAll.of_ints : ∀ (ns : List Int), RpAll K S (ns.map V.int) (ns.map D.int)
  | [] => .nil
  | n :: ns => .cons (.int n) (RpAll.of_ints ns)
theorem Rp.int_inv {v : V} {i : Int} (h : Rp K S v (.int i)) : v = .int i := by cases h; rfl
theorem Rp.bl_inv {v : V} {b : Bool} (h : Rp K S v (.bl b)) : v = .bl b := by cases h; rfl
theorem Rp.str_inv {v : V} {x : Str} (h : Rp K S v (.str x)) : v = .str x := by cases h; rfl
theorem Rp.non_inv {v : V} (h : Rp K S v .non) : v = .non := by cases h; rfl
theorem Rp.lst_inv {v : V} {ds : List D} (h : Rp K S v (.lst ds)) : ∃ a vs, v = .ref a ∧ SqL K S a vs ∧ RpAll K S vs ds := by cases h with | lst q r => exact ⟨_, _, rfl, q, r⟩
theorem Rp.tup_inv {v : V} {ds : List D} (h : Rp K S v (.tup ds)) : ∃ a vs, v = .ref a ∧ SqT K S a vs ∧ RpAll K S vs ds := by cases h with | tup q r => exact ⟨_, _, rfl, q, r⟩
theorem Rp.ins_inv {v : V} {C : Addr} {ns : List Str} {ds : List D} (h : Rp K S v (.ins C ns ds)) : ∃ a dx vs, v = .ref a ∧ S a = some (.ins C dx (ns.zip vs)) ∧ ns.length = vs.length ∧ RpAll K S vs ds := by
  cases h with | ins q l r => exact ⟨_, _, _, rfl, q, l, r⟩
end

/-! ### a slot's value: data, or an object that is ours to change -/
inductive VD where
  | d (x : D)
  | loc (n : Nat)
/-- what an object of ours holds -/
inductive OD where
  | lst (ds : List D)
  | dic (ks : List Key) (ds : List D)
  | ins (C : Addr) (ns : List Str) (xs : List VD)
structure Env where
  /-- how many of the objects are the caller's -/
  m : Nat
  sl : List (Option VD)
  ow : List (Option OD)

inductive Rv (K : PySem.W.Frag) (S : Hp) (ad : List Addr) : V → VD → Prop
  | d {v : V} {x : D} : Rp K S v x → Rv K S ad v (.d x)
  | loc {n : Nat} {l : Addr} : ad[n]? = some l → Rv K S ad (.ref l) (.loc n)
inductive RvAll (K : PySem.W.Frag) (S : Hp) (ad : List Addr) : List V → List VD → Prop
  | nil : RvAll K S ad [] []
  | cons {v : V} {vs : List V} {x : VD} {xs : List VD} : Rv K S ad v x → RvAll K S ad vs xs → RvAll K S ad (v :: vs) (x :: xs)
def OR (K : PySem.W.Frag) (S : Hp) (ad : List Addr) : HO → OD → Prop
  | .lst vs, .lst ds => RpAll K S vs ds
  | .dK kvs, .dic ks ds => ∃ vs, kvs = ks.zip vs ∧ ks.length = vs.length ∧ RpAll K S vs ds
  | .ins C _ fs, .ins C' ns xs => C = C' ∧ ∃ vs, fs = ns.zip vs ∧ ns.length = vs.length ∧ RvAll K S ad vs xs
  | _, _ => False
/-- the state moves on: S grows, new objects of ours come behind -/
structure Step (S : Hp) (ad : List Addr) (S' : Hp) (ad' : List Addr) : Prop where
  s : Ex S S'
  a : ∃ more, ad' = ad ++ more
theorem Step.refl (S : Hp) (ad : List Addr) : Step S ad S ad := ⟨.refl _, [], by simp⟩
theorem Step.trans {S S1 S2 : Hp} {ad ad1 ad2 : List Addr} (h : Step S ad S1 ad1) (h' : Step S1 ad1 S2 ad2) : Step S ad S2 ad2 := by
  obtain ⟨m1, e1⟩ := h.a
  obtain ⟨m2, e2⟩ := h'.a
  exact ⟨h.s.trans h'.s, m1 ++ m2, by rw [e2, e1, List.append_assoc]⟩
theorem Step.get {S S1 : Hp} {ad ad1 : List Addr} (h : Step S ad S1 ad1) {n : Nat} {l : Addr} (e : ad[n]? = some l) : ad1[n]? = some l := by
  obtain ⟨m1, e1⟩ := h.a
  rw [e1, List.getElem?_append_left (List.getElem?_eq_some_iff.mp e).1]; exact e
section
variable {K : PySem.W.Frag} {S S' : Hp} {ad ad' : List Addr}
theorem Rv.mono (e : Step S ad S' ad') : ∀ {v : V} {x : VD}, Rv K S ad v x → Rv K S' ad' v x
  | _, _, .d h => .d (h.mono e.s)
  | _, _, .loc h => .loc (e.get h)
theorem RvAll.mono (e : Step S ad S' ad') : ∀ {vs : List V} {xs : List VD}, RvAll K S ad vs xs → RvAll K S' ad' vs xs
  | _, _, .nil => .nil
  | _, _, .cons a b => .cons (a.mono e) (RvAll.mono e b)
theorem RvAll.length : ∀ {vs : List V} {xs : List VD}, RvAll K S ad vs xs → vs.length = xs.length
  | _, _, .nil => rfl
  | _, _, .cons _ b => by simp [b.length]
theorem RvAll.get : ∀ {vs : List V} {xs : List VD} {i : Nat} {x : VD}, RvAll K S ad vs xs → xs[i]? = some x → ∃ v, vs[i]? = some v ∧ Rv K S ad v x
  | _, _, _, _, .nil, e => by simp at e
  | _, _, 0, _, .cons a _, e => by simp at e; subst e; exact ⟨_, rfl, a⟩
  | _, _, i + 1, _, .cons _ b, e => by
    obtain ⟨d, h1, h2⟩ := b.get (i := i) (by simpa using e)
    exact ⟨d, by simpa using h1, h2⟩
theorem OR.mono (e : Step S ad S' ad') {ho : HO} {o : OD} (h : OR K S ad ho o) : OR K S' ad' ho o := by
  cases ho <;> cases o <;> first | exact h.elim | skip
  · exact RpAll.mono e.s h
  · obtain ⟨vs, h1, h2, h3⟩ := h; exact ⟨vs, h1, h2, h3.mono e.s⟩
  · obtain ⟨h0, vs, h1, h2, h3⟩ := h; exact ⟨h0, vs, h1, h2, h3.mono e⟩
theorem RvAll.of_d : ∀ {vs : List V} {ds : List D}, RpAll K S vs ds → RvAll K S ad vs (ds.map VD.d)
  | _, _, .nil => .nil
  | _, _, .cons a b => .cons (.d a) (RvAll.of_d b)
theorem RvAll.to_d : ∀ {vs : List V} {ds : List D}, RvAll K S ad vs (ds.map VD.d) → RpAll K S vs ds
  | _, [], h => by cases h; exact .nil
  | _, _ :: _, h => by
    cases h with
    | cons a b =>
      cases a with
      | d a => exact .cons a (RvAll.to_d b)
end

/-- from (S0, H0) to (S, H): only the objects at M and new ones changed; S took up new ones alone -/
structure Grow (M : List Addr) (S0 H0 S H : Hp) : Prop where
  s : Ex S0 S
  sh : Ex S H
  h : ∀ a o, H0 a = some o → a ∉ M → H a = some o
  n : ∀ a, S0 a = none → H0 a ≠ none → S a = none
structure Fr where
  M : List Addr
  S : Hp
  H : Hp
structure Rel (K : PySem.W.Frag) (fr : Fr) (ρ : Env) (σ : L2.St) (S H : Hp) (ad : List Addr) : Prop where
  grow : Grow fr.M fr.S fr.H S H
  slots : ∀ (i : Nat) x, ρ.sl[i]? = some (some x) → ∃ v, σ[i]? = some (some v) ∧ Rv K S ad v x
  own : ∀ (n : Nat) o, ρ.ow[n]? = some (some o) → ∃ l ho, ad[n]? = some l ∧ S l = none ∧ H l = some ho ∧ OR K S ad ho o ∧ (ρ.m ≤ n → fr.H l = none)
  mm : fr.M.length = ρ.m ∧ ad.take ρ.m = fr.M
  nd : ad.Nodup
  len : ρ.sl.length = σ.length
  al : ad.length = ρ.ow.length
  ml : ∀ n, n < ρ.m → ∃ o, ρ.ow[n]? = some (some o)
  lv : ∀ l ∈ ad, H l ≠ none
theorem nodup_ixA {l : List Addr} (hN : l.Nodup) {i j : Nat} {x : Addr} (a : l[i]? = some x) (b : l[j]? = some x) : i = j := by
  obtain ⟨h1, e1⟩ := List.getElem?_eq_some_iff.mp a
  obtain ⟨h2, e2⟩ := List.getElem?_eq_some_iff.mp b
  exact (List.getElem_inj hN).mp (e1.trans e2.symm)
section
variable {K : PySem.W.Frag} {fr : Fr} {ρ : Env} {σ : L2.St} {S H : Hp} {ad : List Addr}
theorem Rel.inM (R : Rel K fr ρ σ S H ad) {n : Nat} {l : Addr} (e : ad[n]? = some l) (hn : n < ρ.m) : l ∈ fr.M := by
  rw [← R.mm.2]
  have : (ad.take ρ.m)[n]? = some l := by rw [List.getElem?_take_of_lt hn]; exact e
  exact List.mem_of_getElem? this
theorem Rel.notM (R : Rel K fr ρ σ S H ad) {n : Nat} {l : Addr} (e : ad[n]? = some l) (hn : ρ.m ≤ n) : l ∉ fr.M := fun h => by
  rw [← R.mm.2] at h
  obtain ⟨j, hj⟩ := List.getElem?_of_mem h
  have hlt := (List.getElem?_eq_some_iff.mp hj).1
  rw [List.length_take] at hlt
  have hj2 : ad[j]? = some l := by
    rw [List.getElem?_take_of_lt (by omega)] at hj; exact hj
  have := nodup_ixA R.nd e hj2
  omega
theorem Rel.atM (R : Rel K fr ρ σ S H ad) {l : Addr} (h : l ∈ fr.M) : ∃ n o ho, n < ρ.m ∧ ad[n]? = some l ∧ ρ.ow[n]? = some (some o) ∧ S l = none ∧ H l = some ho := by
  rw [← R.mm.2] at h
  obtain ⟨j, hj⟩ := List.getElem?_of_mem h
  have hlt := (List.getElem?_eq_some_iff.mp hj).1
  rw [List.length_take] at hlt
  have hj2 : ad[j]? = some l := by
    rw [List.getElem?_take_of_lt (by omega)] at hj; exact hj
  obtain ⟨o, ho⟩ := R.ml j (by omega)
  obtain ⟨l', u, e1, e2, e3, _⟩ := R.own j o ho
  rw [hj2] at e1; cases e1
  exact ⟨j, o, u, by omega, hj2, ho, e2, e3⟩
/-- what stood at the entry stands -/
theorem Rel.old (R : Rel K fr ρ σ S H ad) {a : Addr} (h : fr.H a ≠ none) : H a ≠ none := fun z => by
  by_cases hm : a ∈ fr.M
  · obtain ⟨_, _, _, _, _, _, _, e⟩ := R.atM hm
    rw [z] at e; cases e
  · cases q : fr.H a with
    | none => exact h q
    | some u => rw [R.grow.h a u q hm] at z; cases z
theorem _root_.DL.upd_some {H : Hp} {p a : Addr} {o : HO} (h : H a ≠ none) : upd H p o a ≠ none := by
  by_cases e : a = p
  · subst e; rw [upd_same]; simp
  · rw [upd_ne e]; exact h
/-- a new thing for good -/
theorem Rel.newS (R : Rel K fr ρ σ S H ad) {p : Addr} {o : HO} (hp : H p = none) : Rel K fr ρ σ (upd S p o) (upd H p o) ad ∧ Step S ad (upd S p o) ad := by
  have hS : S p = none := R.grow.sh.back hp
  have hst : Step S ad (upd S p o) ad := ⟨.new hS, [], by simp⟩
  refine ⟨⟨⟨R.grow.s.trans hst.s, R.grow.sh.both, fun a u e hm => ?_, fun a e hn => ?_⟩, fun i x e => ?_, fun n u e => ?_, R.mm, R.nd, R.len, R.al, R.ml, fun l hl => ?_⟩, hst⟩
  · have := R.grow.h a u e hm
    rw [upd_ne (ne_of_none this hp)]; exact this
  · have : a ≠ p := fun z => R.old hn (z ▸ hp)
    rw [upd_ne this]; exact R.grow.n a e hn
  · obtain ⟨v, e1, e2⟩ := R.slots i x e
    exact ⟨v, e1, e2.mono hst⟩
  · obtain ⟨l, ho, e1, e2, e3, e4, e5⟩ := R.own n u e
    have hl : l ≠ p := ne_of_none e3 hp
    exact ⟨l, ho, e1, by rw [upd_ne hl]; exact e2, by rw [upd_ne hl]; exact e3, e4.mono hst, e5⟩
  · exact upd_some (R.lv l hl)
/-- a new thing that is ours -/
theorem Rel.newO (R : Rel K fr ρ σ S H ad) {p : Addr} {ho : HO} {o : OD} (hp : H p = none) (h : OR K S (ad ++ [p]) ho o) :
    Rel K fr { ρ with ow := ρ.ow ++ [some o] } σ S (upd H p ho) (ad ++ [p]) ∧ Step S ad S (ad ++ [p]) ∧ (ad ++ [p])[ρ.ow.length]? = some p := by
  have hS : S p = none := R.grow.sh.back hp
  have hst : Step S ad S (ad ++ [p]) := ⟨.refl _, [p], rfl⟩
  have hnp : p ∉ ad := fun z => R.lv p z hp
  have hm : ρ.m ≤ ad.length := by
    have := congrArg List.length R.mm.2
    rw [List.length_take, R.mm.1] at this; omega
  refine ⟨⟨⟨R.grow.s, R.grow.sh.mut hS, fun a u e hm => ?_, R.grow.n⟩, fun i x e => ?_, fun n u e => ?_, ⟨R.mm.1, ?_⟩, ?_, R.len, ?_, fun n hn => ?_, fun l hl => ?_⟩, hst, ?_⟩
  · have := R.grow.h a u e hm
    rw [upd_ne (ne_of_none this hp)]; exact this
  · obtain ⟨v, e1, e2⟩ := R.slots i x e
    exact ⟨v, e1, e2.mono hst⟩
  · by_cases hn : n < ρ.ow.length
    · have e' : ρ.ow[n]? = some (some u) := by rw [← e]; exact (List.getElem?_append_left hn).symm
      obtain ⟨l, ho', e1, e2, e3, e4, e5⟩ := R.own n u e'
      have hl : l ≠ p := ne_of_none e3 hp
      exact ⟨l, ho', hst.get e1, e2, by rw [upd_ne hl]; exact e3, e4.mono hst, e5⟩
    · have hlt := (List.getElem?_eq_some_iff.mp e).1
      simp at hlt
      have hn' : n = ρ.ow.length := by omega
      subst hn'
      have : u = o := by simpa using e.symm
      subst this
      refine ⟨p, ho, by rw [← R.al]; simp, hS, upd_same, h, fun _ => ?_⟩
      cases q : fr.H p with
      | none => rfl
      | some w => exact absurd hp (R.old (by rw [q]; simp))
  · rw [List.take_append_of_le_length hm]; exact R.mm.2
  · refine List.nodup_append.mpr ⟨R.nd, by simp, fun a ha b hb => ?_⟩
    have : b = p := by simpa using hb
    subst this
    exact fun z => hnp (z ▸ ha)
  · simp [R.al]
  · obtain ⟨o', e⟩ := R.ml n hn
    exact ⟨o', by rw [← e]; exact List.getElem?_append_left (List.getElem?_eq_some_iff.mp e).1⟩
  · rcases List.mem_append.mp hl with z | z
    · exact upd_some (R.lv l z)
    · have : l = p := by simpa using z
      subst this; rw [upd_same]; simp
  · rw [← R.al]; simp
/-- an object of ours changes -/
theorem Rel.setO (R : Rel K fr ρ σ S H ad) {n : Nat} {l : Addr} {o o' : OD} {ho : HO} (hn : ρ.ow[n]? = some (some o)) (hl : ad[n]? = some l) (h : OR K S ad ho o') :
    Rel K fr { ρ with ow := ρ.ow.set n (some o') } σ S (upd H l ho) ad := by
  obtain ⟨l', u, e1, e2, e3, e4, e5⟩ := R.own n o hn
  rw [hl] at e1; cases e1
  have hlt := (List.getElem?_eq_some_iff.mp hn).1
  refine ⟨⟨R.grow.s, R.grow.sh.mut e2, fun a w e hm => ?_, R.grow.n⟩, R.slots, fun j w e => ?_, R.mm, R.nd, R.len, by simp [R.al], fun j hj => ?_, fun a ha => upd_some (R.lv a ha)⟩
  · have := R.grow.h a w e hm
    have ne : a ≠ l := fun z => by
      subst z
      by_cases hnm : ρ.m ≤ n
      · rw [e5 hnm] at e; cases e
      · exact hm (R.inM hl (by omega))
    rw [upd_ne ne]; exact this
  · by_cases hj : j = n
    · subst hj
      rw [List.getElem?_set_self hlt] at e
      cases e
      exact ⟨l, ho, hl, e2, upd_same, h, e5⟩
    · rw [List.getElem?_set_ne (Ne.symm hj)] at e
      obtain ⟨l2, u2, f1, f2, f3, f4, f5⟩ := R.own j w e
      have ne : l2 ≠ l := fun z => by subst z; exact hj (nodup_ixA R.nd f1 hl)
      exact ⟨l2, u2, f1, f2, by rw [upd_ne ne]; exact f3, f4, f5⟩
  · by_cases hj' : j = n
    · subst hj'; exact ⟨o', List.getElem?_set_self hlt⟩
    · obtain ⟨w, e⟩ := R.ml j hj
      exact ⟨w, by rw [List.getElem?_set_ne (Ne.symm hj')]; exact e⟩
/-- a slot is stored -/
theorem Rel.setSl (R : Rel K fr ρ σ S H ad) {i : Nat} {v : V} {x : VD} (h : Rv K S ad v x) : Rel K fr { ρ with sl := ρ.sl.set i (some x) } (σ.set i (some v)) S H ad := by
  refine ⟨R.grow, fun j y e => ?_, R.own, R.mm, R.nd, by simp [R.len], R.al, R.ml, R.lv⟩
  by_cases hj : j = i
  · subst hj
    have hlt := (List.getElem?_eq_some_iff.mp e).1
    rw [List.length_set] at hlt
    rw [List.getElem?_set_self hlt] at e
    cases e
    exact ⟨v, List.getElem?_set_self (by rw [← R.len]; exact hlt), h⟩
  · rw [List.getElem?_set_ne (Ne.symm hj)] at e
    obtain ⟨w, e1, e2⟩ := R.slots j y e
    exact ⟨w, by rw [List.getElem?_set_ne (Ne.symm hj)]; exact e1, e2⟩
/-- forgetting slots -/
theorem Rel.weak {sl' : List (Option VD)} {σ' : L2.St} (R : Rel K fr ρ σ S H ad) (hl : sl'.length = σ'.length) (h : ∀ (i : Nat) x, sl'[i]? = some (some x) → ρ.sl[i]? = some (some x) ∧ σ'[i]? = σ[i]?) : Rel K fr { ρ with sl := sl' } σ' S H ad :=
  ⟨R.grow, fun i x e => by
    obtain ⟨h1, h2⟩ := h i x e
    obtain ⟨v, e1, e2⟩ := R.slots i x h1
    exact ⟨v, h2.trans e1, e2⟩, R.own, R.mm, R.nd, hl, R.al, R.ml, R.lv⟩
end
end DL

namespace DL
open PySem PySem.Spec PyProof.Rows L2

/-! ### judgements: canonical readings -/
def tE (K : PySem.W.Frag) (ρ : Env) (x : VD) (ρ' : Env) : TE := fun σ H Q => ∃ fr S ad, Rel K fr ρ σ S H ad ∧ ∀ S' H' ad' v, Step S ad S' ad' → Rel K fr ρ' σ S' H' ad' → Rv K S' ad' v x → Q v H'
def tA (K : PySem.W.Frag) (ρ : Env) (xs : List VD) (ρ' : Env) : TA := fun σ H Q => ∃ fr S ad, Rel K fr ρ σ S H ad ∧ ∀ S' H' ad' vs, Step S ad S' ad' → Rel K fr ρ' σ S' H' ad' → RvAll K S' ad' vs xs → Q vs H'
def tT (K : PySem.W.Frag) (ρ : Env) (b : Bool) (ρ' : Env) : TT := fun σ H Q => ∃ fr S ad, Rel K fr ρ σ S H ad ∧ ∀ S' H' ad', Step S ad S' ad' → Rel K fr ρ' σ S' H' ad' → Q b H'
/-- an expression gives x and leaves ρ' -/
def ED (X : Cx) (ρ : Env) (e : Expr) (x : VD) (ρ' : Env) : Prop := PE X e (tE X.K ρ x ρ')
def AD (X : Cx) (ρ : Env) (es : List Expr) (xs : List VD) (ρ' : Env) : Prop := PA X es (tA X.K ρ xs ρ')
def TD (X : Cx) (ρ : Env) (e : Expr) (b : Bool) (ρ' : Env) : Prop := PT X e (tT X.K ρ b ρ')
def TW (X : Cx) (ρ : Env) (e : Expr) (b : Bool) (ρ' : Env) : Prop := PW X e (tT X.K ρ b ρ')
section
variable {X : Cx} {ρ ρ' ρ1 ρ2 ρ3 : Env} {e a b c : Expr} {es : List Expr} {x y z : VD} {pos : Pos}
theorem ed_of {t : TE} (h : PE X e t) (q : ∀ σ H Q, tE X.K ρ x ρ' σ H Q → t σ H Q) : ED X ρ e x ρ' := ⟨fun pins s σ H Q I hq => h.run pins s σ H Q I (q σ H Q hq)⟩
theorem td_of {t : TT} {k : Bool} (h : PT X e t) (q : ∀ σ H Q, tT X.K ρ k ρ' σ H Q → t σ H Q) : TD X ρ e k ρ' := ⟨fun pins s σ H Q I hq => h.run pins s σ H Q I (q σ H Q hq)⟩
theorem tw_of {t : TT} {k : Bool} (h : PW X e t) (q : ∀ σ H Q, tT X.K ρ k ρ' σ H Q → t σ H Q) : TW X ρ e k ρ' := ⟨fun wh pins s σ H Q I hq => h.run wh pins s σ H Q I (q σ H Q hq)⟩
theorem ad_of {t : TA} {xs : List VD} (h : PA X es t) (q : ∀ σ H Q, tA X.K ρ xs ρ' σ H Q → t σ H Q) : AD X ρ es xs ρ' := ⟨fun pos pins s σ H Q I hq => h.run pos pins s σ H Q I (q σ H Q hq)⟩
theorem TW.td {k : Bool} (h : TW X ρ e k ρ') : TD X ρ e k ρ' := PW.pt h
/-- what comes out, said otherwise -/
theorem ED.to (h : ED X ρ e x ρ1) (e1 : x = y) (e2 : ρ1 = ρ2) : ED X ρ e y ρ2 := e1 ▸ e2 ▸ h
theorem TD.to {k l : Bool} (h : TD X ρ e k ρ1) (e1 : k = l) : TD X ρ e l ρ1 := e1 ▸ h

section
variable {K : PySem.W.Frag} {S : Hp} {ad : List Addr} {v : V}
theorem Rv.dd {q : D} (h : Rv K S ad v (.d q)) : Rp K S v q := by cases h with | d h => exact h
theorem Rv.di {i : Int} (h : Rv K S ad v (.d (.int i))) : v = .int i := h.dd.int_inv
theorem Rv.db {i : Bool} (h : Rv K S ad v (.d (.bl i))) : v = .bl i := h.dd.bl_inv
theorem Rv.ds {i : Str} (h : Rv K S ad v (.d (.str i))) : v = .str i := h.dd.str_inv
theorem Rv.dn (h : Rv K S ad v (.d .non)) : v = .non := h.dd.non_inv
theorem Rv.dl {n : Nat} (h : Rv K S ad v (.loc n)) : ∃ l, v = .ref l ∧ ad[n]? = some l := by cases h with | loc h => exact ⟨_, rfl, h⟩
end
/-! ### names, constants -/
theorem ed_var (i : Nat) {n : Str} (hs : ρ.sl[i]? = some (some x)) (hN : X.N[i]? = some n) (hv : Vis X.env.scope n) (hd : (n == ("__debug__" : Str)) = false := by decide) (hcd : (n == ("__classdict__" : Str)) = false := by decide) :
    ED X ρ (.Name n pos) x ρ := ed_of (pe_var hN hv hd hcd) fun σ H Q ⟨fr, S, ad, R, k⟩ => by
  obtain ⟨v, e1, e2⟩ := R.slots i x hs
  exact ⟨v, e1, k S H ad v (.refl _ _) R e2⟩
theorem ed_int {i : Int} {j : Nat} : ED X ρ (.Constant (.int i) j pos) (.d (.int i)) ρ := ed_of pe_int fun σ H Q ⟨fr, S, ad, R, k⟩ => k S H ad _ (.refl _ _) R (.d (.int i))
theorem ed_bl {i : Bool} {j : Nat} : ED X ρ (.Constant (.bool i) j pos) (.d (.bl i)) ρ := ed_of pe_bl fun σ H Q ⟨fr, S, ad, R, k⟩ => k S H ad _ (.refl _ _) R (.d (.bl i))
theorem ed_non {j : Nat} : ED X ρ (.Constant .none j pos) (.d .non) ρ := ed_of pe_non fun σ H Q ⟨fr, S, ad, R, k⟩ => k S H ad _ (.refl _ _) R (.d .non)
theorem ed_str {i : Str} {j : Nat} : ED X ρ (.Constant (.str i) j pos) (.d (.str i)) ρ := ed_of pe_str fun σ H Q ⟨fr, S, ad, R, k⟩ => k S H ad _ (.refl _ _) R (.d (.str i))
/-- a module's constant: an int, a text, a class .. -/
theorem ed_gint {n : Str} {i : Int} {t : Tok} (hm : X.mg n = some (.int i t)) (hg : Gl X n) (hd : (n == ("__debug__" : Str)) = false := by decide) : ED X ρ (.Name n pos) (.d (.int i)) ρ :=
  ed_of (pe_glob (v := .int i) hg hm ⟨_, rfl⟩ hd) fun σ H Q ⟨fr, S, ad, R, k⟩ => k S H ad _ (.refl _ _) R (.d (.int i))
theorem ed_gstr {n : Str} {i : Str} {t : Tok} (hm : X.mg n = some (.str i t)) (hg : Gl X n) (hd : (n == ("__debug__" : Str)) = false := by decide) : ED X ρ (.Name n pos) (.d (.str i)) ρ :=
  ed_of (pe_glob (v := .str i) hg hm ⟨_, rfl⟩ hd) fun σ H Q ⟨fr, S, ad, R, k⟩ => k S H ad _ (.refl _ _) R (.d (.str i))
theorem ed_gref {n : Str} {i : Addr} (hm : X.mg n = some (.ref i)) (hg : Gl X n) (hd : (n == ("__debug__" : Str)) = false := by decide) : ED X ρ (.Name n pos) (.d (.ref i)) ρ :=
  ed_of (pe_glob (v := .ref i) hg hm rfl hd) fun σ H Q ⟨fr, S, ad, R, k⟩ => k S H ad _ (.refl _ _) R (.d (.ref i))
/-- a built-in class as a value -/
theorem ed_bty {n : Str} {T : String} (hm : X.mg n = none) (hg : Gl X n) (hv : bootBuiltins n = some (.type T)) (hn : n ≠ "__name__" := by decide) (hd : (n == ("__debug__" : Str)) = false := by decide) : ED X ρ (.Name n pos) (.d (.ty T)) ρ :=
  ed_of (pe_bltn (v := .ty T) hg hm hv rfl hn hd) fun σ H Q ⟨fr, S, ad, R, k⟩ => k S H ad _ (.refl _ _) R (.d (.ty T))

/-! ### operators -/
/-- two values in a row -/
theorem two_ {r : R2} (σ : L2.St) (H : Hp) (Q : VK) (w : VD) (hk : tE X.K ρ w ρ2 σ H Q)
    (h : ∀ fr S ad S1 H1 ad1 v1 v2, Rel X.K fr ρ2 σ S1 H1 ad1 → Step S ad S1 ad1 → Rv X.K S1 ad1 v1 x → Rv X.K S1 ad1 v2 y → (∀ S' H' ad' v, Step S1 ad1 S' ad' → Rel X.K fr ρ2 σ S' H' ad' → Rv X.K S' ad' v w → Q v H') → r v1 v2 H1 Q) :
    tOp r (tE X.K ρ x ρ1) (tE X.K ρ1 y ρ2) σ H Q := by
  obtain ⟨fr, S, ad, R, k⟩ := hk
  refine ⟨fr, S, ad, R, fun S1 H1 ad1 v1 st1 R1 rv1 => ⟨fr, S1, ad1, R1, fun S2 H2 ad2 v2 st2 R2 rv2 => ?_⟩⟩
  exact h fr S ad S2 H2 ad2 v1 v2 R2 (st1.trans st2) (rv1.mono st2) rv2 fun S' H' ad' v st => k S' H' ad' v ((st1.trans st2).trans st)
theorem ed_binI {op : Operator} {C : Int → Int → Prop} {g : Int → Int → Int} (ho : OpR X (binaryOp op) (rI C fun i j => .int (g i j))) {i j : Int} (ha : ED X ρ a (.d (.int i)) ρ1) (hb : ED X ρ1 b (.d (.int j)) ρ2) (hc : C i j) :
    ED X ρ (.BinOp a op b pos) (.d (.int (g i j))) ρ2 := ed_of (pe_op ho ha hb) fun σ H Q hk => two_ σ H Q _ hk fun fr S ad S1 H1 ad1 v1 v2 R st r1 r2 k => by
  rw [r1.di, r2.di]; exact ⟨i, j, rfl, rfl, hc, k S1 H1 ad1 _ (.refl _ _) R (.d (.int _))⟩
theorem ed_binI0 {op : Operator} {g : Int → Int → Int} (ho : OpR X (binaryOp op) (rI0 fun i j => .int (g i j))) {i j : Int} (ha : ED X ρ a (.d (.int i)) ρ1) (hb : ED X ρ1 b (.d (.int j)) ρ2) :
    ED X ρ (.BinOp a op b pos) (.d (.int (g i j))) ρ2 := ed_of (pe_op ho ha hb) fun σ H Q hk => two_ σ H Q _ hk fun fr S ad S1 H1 ad1 v1 v2 R st r1 r2 k => by
  rw [r1.di, r2.di]; exact ⟨i, j, rfl, rfl, k S1 H1 ad1 _ (.refl _ _) R (.d (.int _))⟩
theorem ed_add {i j : Int} (ha : ED X ρ a (.d (.int i)) ρ1) (hb : ED X ρ1 b (.d (.int j)) ρ2) : ED X ρ (.BinOp a .Add b pos) (.d (.int (i + j))) ρ2 := ed_binI0 (g := fun i j => i + j) op_add ha hb
theorem ed_sub {i j : Int} (ha : ED X ρ a (.d (.int i)) ρ1) (hb : ED X ρ1 b (.d (.int j)) ρ2) : ED X ρ (.BinOp a .Sub b pos) (.d (.int (i - j))) ρ2 := ed_binI0 (g := fun i j => i - j) op_sub ha hb
theorem ed_mul {i j : Int} (ha : ED X ρ a (.d (.int i)) ρ1) (hb : ED X ρ1 b (.d (.int j)) ρ2) (hc : CMul i j) : ED X ρ (.BinOp a .Mult b pos) (.d (.int (i * j))) ρ2 := ed_binI (g := fun i j => i * j) op_mul ha hb hc
theorem ed_mod {i j : Int} (ha : ED X ρ a (.d (.int i)) ρ1) (hb : ED X ρ1 b (.d (.int j)) ρ2) (hc : 0 < j) : ED X ρ (.BinOp a .Mod b pos) (.d (.int (i % j))) ρ2 := ed_binI (C := fun _ j => 0 < j) (g := fun i j => i % j) op_mod ha hb hc
theorem ed_fdiv {i j : Int} (ha : ED X ρ a (.d (.int i)) ρ1) (hb : ED X ρ1 b (.d (.int j)) ρ2) (hc : CDiv i j) : ED X ρ (.BinOp a .FloorDiv b pos) (.d (.int (i / j))) ρ2 := ed_binI (g := fun i j => i / j) op_fdiv ha hb hc
theorem ed_pow {i j : Int} (ha : ED X ρ a (.d (.int i)) ρ1) (hb : ED X ρ1 b (.d (.int j)) ρ2) (hc : CPow i j) : ED X ρ (.BinOp a .Pow b pos) (.d (.int (i ^ j.toNat))) ρ2 := ed_binI (g := fun i j => i ^ j.toNat) op_pow ha hb hc
theorem ed_neg {i : Int} (ha : ED X ρ a (.d (.int i)) ρ1) : ED X ρ (.UnaryOp .USub a pos) (.d (.int (-i))) ρ1 := ed_of (pe_un un_neg ha) fun σ H Q ⟨fr, S, ad, R, k⟩ => ⟨fr, S, ad, R, fun S1 H1 ad1 v1 st1 R1 r1 => by
  rw [r1.di]; exact ⟨i, rfl, k S1 H1 ad1 _ st1 R1 (.d (.int _))⟩⟩
/-- comparisons of two ints -/
theorem ed_cmpI {op : CmpOp} {g : Int → Int → Bool} (ho : OpR X (compareOp op) (rI0 fun i j => .bl (g i j))) (hm : behindInMarks op b = false) {i j : Int} (ha : ED X ρ a (.d (.int i)) ρ1) (hb : ED X ρ1 b (.d (.int j)) ρ2) :
    ED X ρ (.Compare a [op] [b] pos) (.d (.bl (g i j))) ρ2 := ed_of (pe_cmpR ho ha hb hm) fun σ H Q hk => two_ σ H Q _ hk fun fr S ad S1 H1 ad1 v1 v2 R st r1 r2 k => by
  rw [r1.di, r2.di]; exact ⟨i, j, rfl, rfl, k S1 H1 ad1 _ (.refl _ _) R (.d (.bl _))⟩
theorem td_two {r : R2} (σ : L2.St) (H : Hp) (Q : Bool → Hp → Prop) (k0 : Bool) (hk : tT X.K ρ k0 ρ2 σ H Q)
    (h : ∀ fr S ad S1 H1 ad1 v1 v2, Rel X.K fr ρ2 σ S1 H1 ad1 → Step S ad S1 ad1 → Rv X.K S1 ad1 v1 x → Rv X.K S1 ad1 v2 y → ∀ Q' : VK, (∀ S' H' ad', Step S1 ad1 S' ad' → Rel X.K fr ρ2 σ S' H' ad' → Q' (.bl k0) H') → r v1 v2 H1 Q') :
    tTest (tOp r (tE X.K ρ x ρ1) (tE X.K ρ1 y ρ2)) σ H Q := by
  obtain ⟨fr, S, ad, R, k⟩ := hk
  refine ⟨fr, S, ad, R, fun S1 H1 ad1 v1 st1 R1 rv1 => ⟨fr, S1, ad1, R1, fun S2 H2 ad2 v2 st2 R2 rv2 => ?_⟩⟩
  exact h fr S ad S2 H2 ad2 v1 v2 R2 (st1.trans st2) (rv1.mono st2) rv2 _ fun S' H' ad' st R' => ⟨k0, rfl, k S' H' ad' ((st1.trans st2).trans st) R'⟩
/-- an expression of True or False as a test -/
theorem td_val {k : Bool} (h : ED X ρ e (.d (.bl k)) ρ1) (he : ∀ whole, isTrue e X.env whole = (do let v ← whole; standAt e.pos; holding [v] (truthy v)) := by intro _; rfl) : TD X ρ e k ρ1 :=
  td_of (pt_val h he) fun σ H Q ⟨fr, S, ad, R, k'⟩ => ⟨fr, S, ad, R, fun S1 H1 ad1 v1 st1 R1 r1 => by
    rw [r1.db]; exact ⟨k, rfl, k' S1 H1 ad1 st1 R1⟩⟩
theorem td_cmpI {op : CmpOp} {g : Int → Int → Bool} (ho : OpR X (compareOp op) (rI0 fun i j => .bl (g i j))) (hm : behindInMarks op b = false) {i j : Int} (ha : ED X ρ a (.d (.int i)) ρ1) (hb : ED X ρ1 b (.d (.int j)) ρ2) :
    TD X ρ (.Compare a [op] [b] pos) (g i j) ρ2 := td_of (pt_cmpR ho ha hb hm) fun σ H Q hk => td_two σ H Q _ hk fun fr S ad S1 H1 ad1 v1 v2 R st r1 r2 Q' k => by
  rw [r1.di, r2.di]; exact ⟨i, j, rfl, rfl, k S1 H1 ad1 (.refl _ _) R⟩
section
variable {i j : Int} (ha : ED X ρ a (.d (.int i)) ρ1) (hb : ED X ρ1 b (.d (.int j)) ρ2)
include ha hb
theorem ed_lt : ED X ρ (.Compare a [.Lt] [b] pos) (.d (.bl (decide (i < j)))) ρ2 := ed_cmpI (g := fun i j => decide (i < j)) op_lt (nomark _) ha hb
theorem ed_le : ED X ρ (.Compare a [.LtE] [b] pos) (.d (.bl (decide (i ≤ j)))) ρ2 := ed_cmpI (g := fun i j => decide (i ≤ j)) op_le (nomark _) ha hb
theorem ed_gt : ED X ρ (.Compare a [.Gt] [b] pos) (.d (.bl (decide (j < i)))) ρ2 := ed_cmpI (g := fun i j => decide (j < i)) op_gt (nomark _) ha hb
theorem ed_ge : ED X ρ (.Compare a [.GtE] [b] pos) (.d (.bl (decide (j ≤ i)))) ρ2 := ed_cmpI (g := fun i j => decide (j ≤ i)) op_ge (nomark _) ha hb
theorem td_lt : TD X ρ (.Compare a [.Lt] [b] pos) (decide (i < j)) ρ2 := td_cmpI (g := fun i j => decide (i < j)) op_lt (nomark _) ha hb
theorem td_le : TD X ρ (.Compare a [.LtE] [b] pos) (decide (i ≤ j)) ρ2 := td_cmpI (g := fun i j => decide (i ≤ j)) op_le (nomark _) ha hb
theorem td_gt : TD X ρ (.Compare a [.Gt] [b] pos) (decide (j < i)) ρ2 := td_cmpI (g := fun i j => decide (j < i)) op_gt (nomark _) ha hb
theorem td_ge : TD X ρ (.Compare a [.GtE] [b] pos) (decide (j ≤ i)) ρ2 := td_cmpI (g := fun i j => decide (j ≤ i)) op_ge (nomark _) ha hb
omit ha hb in
theorem opI_eq : OpR X (compareOp .Eq) (rI0 fun i j => .bl (decide (i = j))) := opB0 fun _ _ _ _ _ _ _ q => eq_int (by rw [Bool.beq_eq_decide_eq]; exact q)
omit ha hb in
theorem opI_ne : OpR X (compareOp .NotEq) (rI0 fun i j => .bl (!decide (i = j))) := opB0 fun _ _ _ _ _ _ _ q => ne_int (by rw [bne, Bool.beq_eq_decide_eq]; exact q)
theorem ed_eqI : ED X ρ (.Compare a [.Eq] [b] pos) (.d (.bl (decide (i = j)))) ρ2 := ed_cmpI (g := fun i j => decide (i = j)) opI_eq (nomark _) ha hb
theorem ed_neI : ED X ρ (.Compare a [.NotEq] [b] pos) (.d (.bl (!decide (i = j)))) ρ2 := ed_cmpI (g := fun i j => !decide (i = j)) opI_ne (nomark _) ha hb
theorem td_eqI : TD X ρ (.Compare a [.Eq] [b] pos) (decide (i = j)) ρ2 := td_cmpI (g := fun i j => decide (i = j)) opI_eq (nomark _) ha hb
theorem td_neI : TD X ρ (.Compare a [.NotEq] [b] pos) (!decide (i = j)) ρ2 := td_cmpI (g := fun i j => !decide (i = j)) opI_ne (nomark _) ha hb
end
end
end DL

namespace DL
open PySem PySem.Spec PyProof.Rows L2

section
variable {X : Cx} {ρ ρ' ρ1 ρ2 ρ3 : Env} {e a b c : Expr} {es rest : List Expr} {x y z : VD} {pos : Pos} {p q : Bool}
/-! ### and, or, not, if -/
theorem td_not (h : TD X ρ a p ρ1) : TD X ρ (.UnaryOp .Not a pos) (!p) ρ1 := td_of (pt_not h) fun σ H Q ⟨fr, S, ad, R, k⟩ => ⟨fr, S, ad, R, k⟩
theorem tw_and1 (h : TD X ρ a p ρ1) : TW X ρ (.BoolOp .And [a] pos) p ρ1 := pw_and1 h
theorem tw_or1 (h : TD X ρ a p ρ1) : TW X ρ (.BoolOp .Or [a] pos) p ρ1 := pw_or1 h
/-- a reading that holds only under a condition -/
theorem tw_when {P : Prop} {t : TT} (h : P → PW X e t) : PW X e (fun σ H Q => P ∧ t σ H Q) := ⟨fun wh pins s σ H Q I hq => (h hq.1).run wh pins s σ H Q I hq.2⟩
theorem td_when {P : Prop} {t : TT} (h : P → PT X e t) : PT X e (fun σ H Q => P ∧ t σ H Q) := ⟨fun pins s σ H Q I hq => (h hq.1).run pins s σ H Q I hq.2⟩
theorem ed_when {P : Prop} {t : TE} (h : P → PE X e t) : PE X e (fun σ H Q => P ∧ t σ H Q) := ⟨fun pins s σ H Q I hq => (h hq.1).run pins s σ H Q I hq.2⟩
theorem tw_and (ha : TD X ρ a p ρ) (hb : p = true → TW X ρ (.BoolOp .And (b :: rest) pos) q ρ) : TW X ρ (.BoolOp .And (a :: b :: rest) pos) (p && q) ρ :=
  tw_of (pw_and ha (tw_when hb)) fun σ H Q ⟨fr, S, ad, R, k⟩ => ⟨fr, S, ad, R, fun S1 H1 ad1 st R1 => by
    cases p with
    | true => exact iteT ⟨rfl, fr, S1, ad1, R1, fun S2 H2 ad2 st2 R2 => k S2 H2 ad2 (st.trans st2) R2⟩
    | false => exact iteF (k S1 H1 ad1 st R1)⟩
theorem tw_or (ha : TD X ρ a p ρ) (hb : p = false → TW X ρ (.BoolOp .Or (b :: rest) pos) q ρ) : TW X ρ (.BoolOp .Or (a :: b :: rest) pos) (p || q) ρ :=
  tw_of (pw_or ha (tw_when hb)) fun σ H Q ⟨fr, S, ad, R, k⟩ => ⟨fr, S, ad, R, fun S1 H1 ad1 st R1 => by
    cases p with
    | true => exact iteT (k S1 H1 ad1 st R1)
    | false => exact iteF ⟨rfl, fr, S1, ad1, R1, fun S2 H2 ad2 st2 R2 => k S2 H2 ad2 (st.trans st2) R2⟩⟩
/-- as values -/
theorem ed_one {op : BoolOp} (h : ED X ρ a x ρ1) : ED X ρ (.BoolOp op [a] pos) x ρ1 := pe_one h
theorem ed_and (ha : ED X ρ a (.d (.bl p)) ρ) (hb : p = true → ED X ρ (.BoolOp .And (b :: rest) pos) (.d (.bl q)) ρ) : ED X ρ (.BoolOp .And (a :: b :: rest) pos) (.d (.bl (p && q))) ρ :=
  ed_of (pe_and ha (ed_when hb)) fun σ H Q ⟨fr, S, ad, R, k⟩ => ⟨fr, S, ad, R, fun S1 H1 ad1 v st R1 r1 => by
    rw [r1.db]
    refine ⟨p, rfl, ?_⟩
    cases p with
    | true => exact iteT ⟨rfl, fr, S1, ad1, R1, fun S2 H2 ad2 v2 st2 R2 r2 => k S2 H2 ad2 v2 (st.trans st2) R2 r2⟩
    | false => exact iteF (k S1 H1 ad1 _ st R1 (.d (.bl _)))⟩
theorem ed_or (ha : ED X ρ a (.d (.bl p)) ρ) (hb : p = false → ED X ρ (.BoolOp .Or (b :: rest) pos) (.d (.bl q)) ρ) : ED X ρ (.BoolOp .Or (a :: b :: rest) pos) (.d (.bl (p || q))) ρ :=
  ed_of (pe_or ha (ed_when hb)) fun σ H Q ⟨fr, S, ad, R, k⟩ => ⟨fr, S, ad, R, fun S1 H1 ad1 v st R1 r1 => by
    rw [r1.db]
    refine ⟨p, rfl, ?_⟩
    cases p with
    | true => exact iteT (k S1 H1 ad1 _ st R1 (.d (.bl _)))
    | false => exact iteF ⟨rfl, fr, S1, ad1, R1, fun S2 H2 ad2 v2 st2 R2 r2 => k S2 H2 ad2 v2 (st.trans st2) R2 r2⟩⟩
theorem ed_not (ha : ED X ρ a (.d (.bl p)) ρ1) : ED X ρ (.UnaryOp .Not a pos) (.d (.bl (!p))) ρ1 :=
  ed_of (pe_not ha) fun σ H Q ⟨fr, S, ad, R, k⟩ => ⟨fr, S, ad, R, fun S1 H1 ad1 v st R1 r1 => by
    rw [r1.db]
    exact ⟨p, rfl, k S1 H1 ad1 _ st R1 (.d (.bl _))⟩⟩
theorem ed_if (hc : TD X ρ c p ρ1) (ha : p = true → ED X ρ1 a x ρ2) (hb : p = false → ED X ρ1 b x ρ2) : ED X ρ (.IfExp c a b pos) x ρ2 :=
  ed_of (pe_ifExp hc (ed_when ha) (ed_when hb)) fun σ H Q ⟨fr, S, ad, R, k⟩ => ⟨fr, S, ad, R, fun S1 H1 ad1 st R1 => by
    cases p with
    | true => exact iteT ⟨rfl, fr, S1, ad1, R1, fun S2 H2 ad2 v2 st2 R2 r2 => k S2 H2 ad2 v2 (st.trans st2) R2 r2⟩
    | false => exact iteF ⟨rfl, fr, S1, ad1, R1, fun S2 H2 ad2 v2 st2 R2 r2 => k S2 H2 ad2 v2 (st.trans st2) R2 r2⟩⟩
theorem ed_ifT (hc : TD X ρ c true ρ1) (ha : ED X ρ1 a x ρ2) : ED X ρ (.IfExp c a b pos) x ρ2 := by
  have hb : false = true → PE X b (tE X.K ρ1 x ρ2) := fun z => nomatch z
  exact ed_of (pe_ifExp hc ha (ed_when hb)) fun σ H Q ⟨fr, S, ad, R, k⟩ => ⟨fr, S, ad, R, fun S1 H1 ad1 st R1 =>
    iteT ⟨fr, S1, ad1, R1, fun S2 H2 ad2 v2 st2 R2 r2 => k S2 H2 ad2 v2 (st.trans st2) R2 r2⟩⟩
theorem ed_ifF (hc : TD X ρ c false ρ1) (hb : ED X ρ1 b x ρ2) : ED X ρ (.IfExp c a b pos) x ρ2 := by
  have ha : false = true → PE X a (tE X.K ρ1 x ρ2) := fun z => nomatch z
  exact ed_of (pe_ifExp hc (ed_when ha) hb) fun σ H Q ⟨fr, S, ad, R, k⟩ => ⟨fr, S, ad, R, fun S1 H1 ad1 st R1 =>
    iteF ⟨fr, S1, ad1, R1, fun S2 H2 ad2 v2 st2 R2 r2 => k S2 H2 ad2 v2 (st.trans st2) R2 r2⟩⟩
/-! ### a < b < c of ints -/
theorem chain_ {r r' : R2} {g g' : Int → Int → Bool} {i j k : Int} (er : r = rI0 fun i j => .bl (g i j)) (er' : r' = rI0 fun i j => .bl (g' i j)) {σ : L2.St} {H : Hp} {Q : VK} (hk : tE X.K ρ (.d (.bl (g i j && g' j k))) ρ σ H Q) :
    tChain r r' (tE X.K ρ (.d (.int i)) ρ) (tE X.K ρ (.d (.int j)) ρ) (tE X.K ρ (.d (.int k)) ρ) σ H Q := by
  subst er er'
  obtain ⟨fr, S, ad, R, kk⟩ := hk
  refine ⟨fr, S, ad, R, fun S1 H1 ad1 v1 st1 R1 rv1 => ⟨fr, S1, ad1, R1, fun S2 H2 ad2 v2 st2 R2 rv2 => ?_⟩⟩
  rw [rv1.di, rv2.di]
  refine ⟨i, j, rfl, rfl, g i j, rfl, ?_⟩
  cases q : g i j with
  | false =>
    rw [q] at kk
    exact iteF (kk S2 H2 ad2 _ (st1.trans st2) R2 (.d (.bl _)))
  | true =>
    rw [q] at kk
    refine iteT ⟨fr, S2, ad2, R2, fun S3 H3 ad3 v3 st3 R3 rv3 => ?_⟩
    rw [rv3.di]
    exact ⟨j, k, rfl, rfl, kk S3 H3 ad3 _ ((st1.trans st2).trans st3) R3 (.d (.bl _))⟩
theorem ed_chain {op op' : CmpOp} {g g' : Int → Int → Bool} (ho : OpR X (compareOp op) (rI0 fun i j => .bl (g i j))) (ho' : OpR X (compareOp op') (rI0 fun i j => .bl (g' i j))) {i j k : Int}
    (ha : ED X ρ a (.d (.int i)) ρ) (hb : ED X ρ b (.d (.int j)) ρ) (hc : ED X ρ c (.d (.int k)) ρ) (hm : lastMarks [op, op'] [b, c] = false := by with_unfolding_all rfl) : ED X ρ (.Compare a [op, op'] [b, c] pos) (.d (.bl (g i j && g' j k))) ρ :=
  ed_of (pe_chain ho ho' ha hb hc hm) fun σ H Q hk => chain_ rfl rfl hk
theorem td_chain {op op' : CmpOp} {g g' : Int → Int → Bool} (ho : OpR X (compareOp op) (rI0 fun i j => .bl (g i j))) (ho' : OpR X (compareOp op') (rI0 fun i j => .bl (g' i j))) {i j k : Int}
    (ha : ED X ρ a (.d (.int i)) ρ) (hb : ED X ρ b (.d (.int j)) ρ) (hc : ED X ρ c (.d (.int k)) ρ) (hm : lastMarks [op, op'] [b, c] = false := by with_unfolding_all rfl) : TD X ρ (.Compare a [op, op'] [b, c] pos) (g i j && g' j k) ρ :=
  td_of (pt_chain ho ho' ha hb hc hm) fun σ H Q ⟨fr, S, ad, R, kk⟩ => chain_ rfl rfl ⟨fr, S, ad, R, fun S1 H1 ad1 v1 st1 R1 rv1 => by rw [rv1.db]; exact ⟨_, rfl, kk S1 H1 ad1 st1 R1⟩⟩
section
variable {i j k : Int} (ha : ED X ρ a (.d (.int i)) ρ) (hb : ED X ρ b (.d (.int j)) ρ) (hc : ED X ρ c (.d (.int k)) ρ)
include ha hb hc
theorem ed_lele (hm : lastMarks [.LtE, .LtE] [b, c] = false := by with_unfolding_all rfl) : ED X ρ (.Compare a [.LtE, .LtE] [b, c] pos) (.d (.bl (decide (i ≤ j) && decide (j ≤ k)))) ρ := ed_chain (g := fun i j => decide (i ≤ j)) (g' := fun i j => decide (i ≤ j)) op_le op_le ha hb hc hm
theorem td_lele (hm : lastMarks [.LtE, .LtE] [b, c] = false := by with_unfolding_all rfl) : TD X ρ (.Compare a [.LtE, .LtE] [b, c] pos) (decide (i ≤ j) && decide (j ≤ k)) ρ := td_chain (g := fun i j => decide (i ≤ j)) (g' := fun i j => decide (i ≤ j)) op_le op_le ha hb hc hm
theorem td_ltle (hm : lastMarks [.Lt, .LtE] [b, c] = false := by with_unfolding_all rfl) : TD X ρ (.Compare a [.Lt, .LtE] [b, c] pos) (decide (i < j) && decide (j ≤ k)) ρ := td_chain (g := fun i j => decide (i < j)) (g' := fun i j => decide (i ≤ j)) op_lt op_le ha hb hc hm
end
/-! ### equality of scalars; is None -/
def D.sc : D → Option V
  | .non => some .non | .bl b => some (.bl b) | .int i => some (.int i) | .str s => some (.str s)
  | _ => none
theorem Rp.sc {K : PySem.W.Frag} {S : Hp} {v w : V} {d : D} (h : Rp K S v d) (e : d.sc = some w) : v = w := by
  cases h <;> simp [D.sc] at e <;> exact e
/-- the scalars that == tells apart as data -/
def scD : D → D → Bool
  | .int _, .int _ | .bl _, .bl _ | .str _, .str _ | .non, .non | .int _, .str _ | .str _, .int _ | .non, .int _ | .int _, .non | .non, .str _ | .str _, .non | .non, .bl _ | .bl _, .non => true
  | _, _ => false
def eqSc : D → D → Bool
  | .int i, .int j => decide (i = j)
  | .bl i, .bl j => decide (i = j)
  | .str i, .str j => decide (i = j)
  | .non, .non => true
  | _, _ => false
theorem scD_ok {K : PySem.W.Frag} {S S' : Hp} {v w : V} {d d' : D} (h : Rp K S v d) (h' : Rp K S' w d') (e : scD d d' = true) : scal v w = true ∧ decide (v = w) = eqSc d d' := by
  cases h <;> cases h' <;> first | (simp [scD] at e; done) | (simp [scal, eqSc])
theorem ed_eqS {d d' : D} (ha : ED X ρ a (.d d) ρ1) (hb : ED X ρ1 b (.d d') ρ2) (h : scD d d' = true) : ED X ρ (.Compare a [.Eq] [b] pos) (.d (.bl (eqSc d d'))) ρ2 :=
  ed_of (pe_cmpR op_eq ha hb (nomark _)) fun σ H Q hk => two_ σ H Q _ hk fun fr S ad S1 H1 ad1 v1 v2 R st r1 r2 k => by
    obtain ⟨h1, h2⟩ := scD_ok r1.dd r2.dd h
    exact ⟨h1, by rw [h2]; exact k S1 H1 ad1 _ (.refl _ _) R (.d (.bl _))⟩
theorem ed_neS {d d' : D} (ha : ED X ρ a (.d d) ρ1) (hb : ED X ρ1 b (.d d') ρ2) (h : scD d d' = true) : ED X ρ (.Compare a [.NotEq] [b] pos) (.d (.bl (!eqSc d d'))) ρ2 :=
  ed_of (pe_cmpR op_ne ha hb (nomark _)) fun σ H Q hk => two_ σ H Q _ hk fun fr S ad S1 H1 ad1 v1 v2 R st r1 r2 k => by
    obtain ⟨h1, h2⟩ := scD_ok r1.dd r2.dd h
    exact ⟨h1, by rw [h2]; exact k S1 H1 ad1 _ (.refl _ _) R (.d (.bl _))⟩
theorem td_eqS {d d' : D} (ha : ED X ρ a (.d d) ρ1) (hb : ED X ρ1 b (.d d') ρ2) (h : scD d d' = true) : TD X ρ (.Compare a [.Eq] [b] pos) (eqSc d d') ρ2 :=
  td_of (pt_cmpR op_eq ha hb (nomark _)) fun σ H Q hk => td_two σ H Q _ hk fun fr S ad S1 H1 ad1 v1 v2 R st r1 r2 Q' k => by
    obtain ⟨h1, h2⟩ := scD_ok r1.dd r2.dd h
    exact ⟨h1, by rw [h2]; exact k S1 H1 ad1 (.refl _ _) R⟩
theorem td_neS {d d' : D} (ha : ED X ρ a (.d d) ρ1) (hb : ED X ρ1 b (.d d') ρ2) (h : scD d d' = true) : TD X ρ (.Compare a [.NotEq] [b] pos) (!eqSc d d') ρ2 :=
  td_of (pt_cmpR op_ne ha hb (nomark _)) fun σ H Q hk => td_two σ H Q _ hk fun fr S ad S1 H1 ad1 v1 v2 R st r1 r2 Q' k => by
    obtain ⟨h1, h2⟩ := scD_ok r1.dd r2.dd h
    exact ⟨h1, by rw [h2]; exact k S1 H1 ad1 (.refl _ _) R⟩
def D.isNone : D → Bool
  | .non => true
  | _ => false
theorem isNone_ok {K : PySem.W.Frag} {S : Hp} {v : V} {d : D} (h : Rp K S v d) : decide (v = .non) = d.isNone := by
  cases h <;> simp [D.isNone]
theorem td_isN {d : D} {j : Nat} {pos' : Pos} (ha : ED X ρ a (.d d) ρ1) : TD X ρ (.Compare a [.Is] [.Constant .none j pos'] pos) d.isNone ρ1 :=
  td_of (pt_cmpR op_isN ha (pe_non (X := X)) (nomark _)) fun σ H Q ⟨fr, S, ad, R, k⟩ => ⟨fr, S, ad, R, fun S1 H1 ad1 v1 st1 R1 r1 => ⟨rfl, by
    refine ⟨_, rfl, ?_⟩
    rw [isNone_ok r1.dd]; exact k S1 H1 ad1 st1 R1⟩⟩
theorem td_notN {d : D} {j : Nat} {pos' : Pos} (ha : ED X ρ a (.d d) ρ1) : TD X ρ (.Compare a [.IsNot] [.Constant .none j pos'] pos) (!d.isNone) ρ1 :=
  td_of (pt_cmpR op_notN ha (pe_non (X := X)) (nomark _)) fun σ H Q ⟨fr, S, ad, R, k⟩ => ⟨fr, S, ad, R, fun S1 H1 ad1 v1 st1 R1 r1 => ⟨rfl, by
    refine ⟨_, rfl, ?_⟩
    rw [isNone_ok r1.dd]; exact k S1 H1 ad1 st1 R1⟩⟩
/-! ### argument lists and displays -/
theorem ad_nil : AD X ρ [] [] ρ := ad_of pa_nil fun σ H Q ⟨fr, S, ad, R, k⟩ => k S H ad [] (.refl _ _) R .nil
theorem ad_cons {xs : List VD} (ha : ED X ρ a x ρ1) (hr : AD X ρ1 es xs ρ2) (hs : starEach (a :: es) X.env = (false, eval a X.env) :: starEach es X.env := by rfl) : AD X ρ (a :: es) (x :: xs) ρ2 :=
  ad_of (pa_cons ha hr hs) fun σ H Q ⟨fr, S, ad, R, k⟩ => ⟨fr, S, ad, R, fun S1 H1 ad1 v1 st1 R1 r1 => ⟨fr, S1, ad1, R1, fun S2 H2 ad2 vs st2 R2 r2 => k S2 H2 ad2 _ (st1.trans st2) R2 (.cons (r1.mono st2) r2)⟩⟩
inductive AllD : List VD → List D → Prop
  | nil : AllD [] []
  | cons {d : D} {xs : List VD} {ds : List D} : AllD xs ds → AllD (.d d :: xs) (d :: ds)
theorem AllD.rp {K : PySem.W.Frag} {S : Hp} {ad : List Addr} : ∀ {vs : List V} {xs : List VD} {ds : List D}, AllD xs ds → RvAll K S ad vs xs → RpAll K S vs ds
  | _, _, _, .nil, h => by cases h; exact .nil
  | _, _, _, .cons a, h => by
    cases h with
    | cons r t => exact .cons r.dd (a.rp t)
theorem AllD.length {xs : List VD} {ds : List D} : AllD xs ds → xs.length = ds.length
  | .nil => rfl
  | .cons h => by simp [h.length]
theorem AllD.of_map : ∀ (ds : List D), AllD (ds.map VD.d) ds
  | [] => .nil
  | _ :: ds => .cons (.of_map ds)
theorem ed_tup {xs : List VD} {ds : List D} {k1} (h : AD X ρ es xs ρ1) (hd : AllD xs ds) (hz : ds.length ≤ sizeLine := by decide) : ED X ρ (.Tuple es k1 pos) (.d (.tup ds)) ρ1 :=
  ed_of (pe_tup h) fun σ H Q ⟨fr, S, ad, R, k⟩ => ⟨fr, S, ad, R, fun S1 H1 ad1 vs st1 R1 r1 => ⟨by rw [r1.length, hd.length]; exact hz, fun p hp => by
    obtain ⟨R2, st2⟩ := R1.newS (o := .tup vs) hp
    exact k _ _ ad1 _ (st1.trans st2) R2 (.d (.tup (SqT.of upd_same) ((hd.rp r1).mono st2.s)))⟩⟩
theorem ed_lst {xs : List VD} {ds : List D} (h : AD X ρ es xs ρ1) (hd : AllD xs ds) (hz : ds.length ≤ sizeLine := by decide) : ED X ρ (.List es pos) (.d (.lst ds)) ρ1 :=
  ed_of (pe_lst h) fun σ H Q ⟨fr, S, ad, R, k⟩ => ⟨fr, S, ad, R, fun S1 H1 ad1 vs st1 R1 r1 => ⟨by rw [r1.length, hd.length]; exact hz, fun p hp => by
    obtain ⟨R2, st2⟩ := R1.newS (o := .lst vs) hp
    exact k _ _ ad1 _ (st1.trans st2) R2 (.d (.lst (SqL.of upd_same) ((hd.rp r1).mono st2.s)))⟩⟩
/-- a new list that is ours -/
theorem ed_lstO {xs : List VD} {ds : List D} (h : AD X ρ es xs ρ1) (hd : AllD xs ds) (hz : ds.length ≤ sizeLine := by decide) : ED X ρ (.List es pos) (.loc ρ1.ow.length) { ρ1 with ow := ρ1.ow ++ [some (.lst ds)] } :=
  ed_of (pe_lst h) fun σ H Q ⟨fr, S, ad, R, k⟩ => ⟨fr, S, ad, R, fun S1 H1 ad1 vs st1 R1 r1 => ⟨by rw [r1.length, hd.length]; exact hz, fun p hp => by
    obtain ⟨R2, st2, e⟩ := R1.newO (p := p) (ho := .lst vs) (o := .lst ds) hp (hd.rp r1)
    exact k _ _ _ _ (st1.trans st2) R2 (.loc e)⟩⟩
end
end DL

namespace DL
open PySem PySem.Spec PyProof.Rows L2

/-! ### statements -/
structure Kn where
  nx : Env → Prop
  rt : D → List (Option OD) → Prop
  bk : Env → Prop := fun _ => False
  ct : Env → Prop := fun _ => False
structure KnOk (K : PySem.W.Frag) (fr : Fr) (k : Kn) (Dn : Ends) : Prop where
  nx : ∀ ρ σ S H ad, k.nx ρ → Rel K fr ρ σ S H ad → Dn.nx σ H
  rt : ∀ d ρ σ S H ad v, k.rt d ρ.ow → Rel K fr ρ σ S H ad → Rp K S v d → Dn.rt v H
  bk : ∀ ρ σ S H ad, k.bk ρ → Rel K fr ρ σ S H ad → Dn.bk σ H
  ct : ∀ ρ σ S H ad, k.ct ρ → Rel K fr ρ σ S H ad → Dn.ct σ H
def tS (K : PySem.W.Frag) (ρ : Env) (k : Kn) : TS := fun Dn σ H => ∃ fr S ad, Rel K fr ρ σ S H ad ∧ KnOk K fr k Dn
def SD (X : Cx) (ρ : Env) (st : Stmt) (k : Kn) : Prop := PS X st (tS X.K ρ k)
def SDs (X : Cx) (ρ : Env) (sts : List Stmt) (k : Kn) : Prop := PSs X sts (tS X.K ρ k)
/-- a target takes a value; the slots at vs are stored -/
def tG (K : PySem.W.Frag) (vs : List Nat) (ρ : Env) (x : VD) (ρ' : Env) : TG := fun v σ H Q => ∃ fr S ad, Rel K fr ρ σ S H ad ∧ Rv K S ad v x ∧
  ∀ σ' S' H' ad', Step S ad S' ad' → Rel K fr ρ' σ' S' H' ad' → σ'.length = σ.length → (∀ j, j ∉ vs → σ'[j]? = σ[j]?) → Q σ' H'
def GD (X : Cx) (vs : List Nat) (ρ : Env) (tg : Expr) (x : VD) (ρ' : Env) : Prop := PG X tg (tG X.K vs ρ x ρ')
def tGs (K : PySem.W.Frag) (vs : List Nat) (ρ : Env) (xs : List VD) (ρ' : Env) : TGs := fun ws σ H Q => ∃ fr S ad, Rel K fr ρ σ S H ad ∧ RvAll K S ad ws xs ∧
  ∀ σ' S' H' ad', Step S ad S' ad' → Rel K fr ρ' σ' S' H' ad' → σ'.length = σ.length → (∀ j, j ∉ vs → σ'[j]? = σ[j]?) → Q σ' H'
def GDs (X : Cx) (vs : List Nat) (ρ : Env) (tg : List Expr) (xs : List VD) (ρ' : Env) : Prop := PGs X tg (tGs X.K vs ρ xs ρ')
section
variable {X : Cx} {ρ ρ' ρ1 ρ2 ρ3 : Env} {e a b c : Expr} {es rest : List Expr} {x y z : VD} {pos : Pos} {p q : Bool} {st : Stmt} {r body orelse : List Stmt} {k : Kn}
theorem sd_of {t : TS} (h : PS X st t) (q : ∀ Dn σ H, tS X.K ρ k Dn σ H → t Dn σ H) : SD X ρ st k := ⟨fun pins s σ H Dn I hq => h.run pins s σ H Dn I (q Dn σ H hq)⟩
theorem sds_of {t : TS} (h : PSs X r t) (q : ∀ Dn σ H, tS X.K ρ k Dn σ H → t Dn σ H) : SDs X ρ r k := ⟨fun pins s σ H Dn I hq => h.run pins s σ H Dn I (q Dn σ H hq)⟩
theorem gd_of {t : TG} {tg : Expr} {vs : List Nat} (h : PG X tg t) (q : ∀ v σ H Q, tG X.K vs ρ x ρ' v σ H Q → t v σ H Q) : GD X vs ρ tg x ρ' := ⟨fun pins s σ H v u Q I rv hq => h.run pins s σ H v u Q I rv (q v σ H Q hq)⟩
/-- weaker wishes -/
theorem KnOk.imp {K : PySem.W.Frag} {fr : Fr} {k k' : Kn} {Dn : Ends} (h : KnOk K fr k Dn) (h1 : ∀ ρ, k'.nx ρ → k.nx ρ) (h2 : ∀ d o, k'.rt d o → k.rt d o) (h3 : ∀ ρ, k'.bk ρ → k.bk ρ) (h4 : ∀ ρ, k'.ct ρ → k.ct ρ) : KnOk K fr k' Dn :=
  ⟨fun ρ σ S H ad q => h.nx ρ σ S H ad (h1 ρ q), fun d ρ σ S H ad v q => h.rt d ρ σ S H ad v (h2 d _ q), fun ρ σ S H ad q => h.bk ρ σ S H ad (h3 ρ q), fun ρ σ S H ad q => h.ct ρ σ S H ad (h4 ρ q)⟩
theorem SDs.imp {k k' : Kn} (h : SDs X ρ r k') (h1 : ∀ ρ, k'.nx ρ → k.nx ρ) (h2 : ∀ d o, k'.rt d o → k.rt d o) (h3 : ∀ ρ, k'.bk ρ → k.bk ρ := by intro _ h; exact h) (h4 : ∀ ρ, k'.ct ρ → k.ct ρ := by intro _ h; exact h) : SDs X ρ r k :=
  sds_of h fun Dn σ H ⟨fr, S, ad, R, kk⟩ => ⟨fr, S, ad, R, kk.imp h1 h2 h3 h4⟩
/-- a reading by any of several states -/
theorem pss_any {P : Env → Kn → Prop} (h : ∀ ρ k, P ρ k → SDs X ρ r k) : PSs X r (fun Dn σ H => ∃ ρ k, P ρ k ∧ tS X.K ρ k Dn σ H) := ⟨fun pins s σ H Dn I ⟨ρ, k, hp, hq⟩ => (h ρ k hp).run pins s σ H Dn I hq⟩
theorem sds_nil (h : k.nx ρ) : SDs X ρ [] k := sds_of pss_nil fun Dn σ H ⟨fr, S, ad, R, kk⟩ => kk.nx ρ σ S H ad h R
theorem sds_cons (h : SD X ρ st { k with nx := fun ρ' => SDs X ρ' r k }) : SDs X ρ (st :: r) k :=
  sds_of (pss_cons h (pss_any (P := fun ρ' k' => SDs X ρ' r k' ∧ k' = k) fun _ _ h => h.1)) fun Dn σ H ⟨fr, S, ad, R, kk⟩ =>
    ⟨fr, S, ad, R, fun ρ' σ' S' H' ad' hn R' => ⟨ρ', k, ⟨hn, rfl⟩, fr, S', ad', R', kk⟩, kk.rt, kk.bk, kk.ct⟩
/-- the rest is never reached -/
theorem sds_end {t : TS} (h : PS X st t) (q : ∀ Dn σ H, tS X.K ρ k Dn σ H → ∀ nx, t { Dn with nx := nx } σ H) : SDs X ρ (st :: r) k :=
  sds_of (pss_cons h pss_never) fun Dn σ H hq => q Dn σ H hq _
theorem sds_pass (h : SDs X ρ r k) : SDs X ρ (.Pass pos :: r) k := sds_cons (sd_of ps_pass fun Dn σ H ⟨fr, S, ad, R, kk⟩ => kk.nx ρ σ S H ad h R)
theorem sds_break (h : k.bk ρ) : SDs X ρ (.Break pos :: r) k := sds_end ps_break fun Dn σ H ⟨fr, S, ad, R, kk⟩ nx => kk.bk ρ σ S H ad h R
theorem sds_cont (h : k.ct ρ) : SDs X ρ (.Continue pos :: r) k := sds_end ps_continue fun Dn σ H ⟨fr, S, ad, R, kk⟩ nx => kk.ct ρ σ S H ad h R
/-- return e -/
theorem sds_ret {d : D} (he : ED X ρ e (.d d) ρ1) (h : k.rt d ρ1.ow) : SDs X ρ (.Return (some e) pos :: r) k :=
  sds_end (ps_ret he) fun Dn σ H ⟨fr, S, ad, R, kk⟩ nx => ⟨fr, S, ad, R, fun S1 H1 ad1 v st R1 r1 => kk.rt d ρ1 σ S1 H1 ad1 v h R1 r1.dd⟩
theorem sds_retN (h : k.rt .non ρ.ow) : SDs X ρ (.Return none pos :: r) k :=
  sds_end ps_retN fun Dn σ H ⟨fr, S, ad, R, kk⟩ nx => kk.rt .non ρ σ S H ad .non h R .non
/-- e; -/
theorem sds_expr (he : ED X ρ e x ρ1) (h : SDs X ρ1 r k) (hs : swapsWith e none pos.line X.env = pure false := by rfl) : SDs X ρ (.Expr e pos :: r) k :=
  sds_cons (sd_of (ps_expr he hs) fun Dn σ H ⟨fr, S, ad, R, kk⟩ => ⟨fr, S, ad, R, fun S1 H1 ad1 v st R1 r1 => kk.nx ρ1 σ S1 H1 ad1 h R1⟩)
def Env.put (ρ : Env) (i : Nat) (x : VD) : Env := { ρ with sl := ρ.sl.set i (some x) }
/-- name = e -/
theorem sds_set (i : Nat) {n : Str} {pos' : Pos} (he : ED X ρ e x ρ1) (h : SDs X (ρ1.put i x) r k) (hN : X.N.Nodup) (hi : X.N[i]? = some n) (hx : Loc X.env.scope n) (hs : swapsWith e (some (.Name n pos')) pos.line X.env = pure false)
    (hf : X.fn n = true ∨ X.env.scope.names.lookup n = some .local) : SDs X ρ (.Assign [.Name n pos'] e pos :: r) k :=
  sds_cons (sd_of (ps_set hN hi hx he hs hf) fun Dn σ H ⟨fr, S, ad, R, kk⟩ => ⟨fr, S, ad, R, fun S1 H1 ad1 v st R1 r1 => kk.nx (ρ1.put i x) _ S1 H1 ad1 h (R1.setSl r1)⟩)
/-- name op= e (ints) -/
theorem sds_augI (i : Nat) {n : Str} {pos' : Pos} {op : Operator} {f : Int → Int → Int} {u w : Int} (ho : PIp X op (ipI f)) (hv : ρ.sl[i]? = some (some (.d (.int u)))) (he : ED X ρ e (.d (.int w)) ρ1) (h : SDs X (ρ1.put i (.d (.int (f u w)))) r k) (hN : X.N.Nodup) (hi : X.N[i]? = some n) (hx : Loc X.env.scope n)
    (hf : X.fn n = true ∨ X.env.scope.names.lookup n = some .local) : SDs X ρ (.AugAssign (.Name n pos') op e pos :: r) k :=
  sds_cons (sd_of (ps_aug hN hi hx he ho hf) fun Dn σ H ⟨fr, S, ad, R, kk⟩ => by
    obtain ⟨v, e1, e2⟩ := R.slots i _ hv
    rw [e2.di] at e1
    exact ⟨_, e1, fr, S, ad, R, fun S1 H1 ad1 v1 st R1 r1 => by
      rw [r1.di]
      exact ⟨u, w, rfl, rfl, kk.nx (ρ1.put i (.d (.int (f u w)))) _ S1 H1 ad1 h (R1.setSl (.d (.int _)))⟩⟩)
/-- a, b = e1, e2 -/
theorem sds_par (i j : Nat) {m n : Str} {px py pt : Pos} {kt k2 pt2} (ha : AD X ρ [a, b] [x, y] ρ1) (h : SDs X ((ρ1.put i x).put j y) r k) (hc : X.calm = true) (hN : X.N.Nodup) (hi : X.N[i]? = some m) (hj : X.N[j]? = some n) (hij : i ≠ j)
    (hx : X.env.scope.names.lookup m = some .local) (hy : X.env.scope.names.lookup n = some .local)
    (hw : swappedStores [.Tuple [.Name m px, .Name n py] kt pt] (.Tuple [a, b] k2 pt2) X.env = pure (some [m, n]))
    (hs : swapsWithSole [.Tuple [.Name m px, .Name n py] kt pt] (.Tuple [a, b] k2 pt2) pos.line X.env = pure false) : SDs X ρ (.Assign [.Tuple [.Name m px, .Name n py] kt pt] (.Tuple [a, b] k2 pt2) pos :: r) k :=
  sds_cons (sd_of (ps_par hc hN hi hj hij hx hy ha hw hs) fun Dn σ H ⟨fr, S, ad, R, kk⟩ => ⟨fr, S, ad, R, fun S1 H1 ad1 vs st R1 r1 => by
    cases r1 with
    | cons r1 t1 =>
      cases t1 with
      | cons r2 t2 =>
        cases t2
        exact ⟨_, _, rfl, kk.nx _ _ S1 H1 ad1 h ((R1.setSl r1).setSl r2)⟩⟩)
theorem sds_par3 (i j l : Nat) {m n o : Str} {px py pz pt : Pos} {kt k2 pt2} (ha : AD X ρ [a, b, c] [x, y, z] ρ1) (h : SDs X (((ρ1.put i x).put j y).put l z) r k) (hc : X.calm = true) (hN : X.N.Nodup) (hi : X.N[i]? = some m) (hj : X.N[j]? = some n) (hl : X.N[l]? = some o) (hij : i ≠ j) (hil : i ≠ l) (hjl : j ≠ l)
    (hx : X.env.scope.names.lookup m = some .local) (hy : X.env.scope.names.lookup n = some .local) (hz : X.env.scope.names.lookup o = some .local)
    (hw : swappedStores [.Tuple [.Name m px, .Name n py, .Name o pz] kt pt] (.Tuple [a, b, c] k2 pt2) X.env = pure (some [m, n, o]))
    (hs : swapsWithSole [.Tuple [.Name m px, .Name n py, .Name o pz] kt pt] (.Tuple [a, b, c] k2 pt2) pos.line X.env = pure false) : SDs X ρ (.Assign [.Tuple [.Name m px, .Name n py, .Name o pz] kt pt] (.Tuple [a, b, c] k2 pt2) pos :: r) k :=
  sds_cons (sd_of (ps_par3 hc hN hi hj hl hij hil hjl hx hy hz ha hw hs) fun Dn σ H ⟨fr, S, ad, R, kk⟩ => ⟨fr, S, ad, R, fun S1 H1 ad1 vs st R1 r1 => by
    cases r1 with
    | cons r1 t1 =>
      cases t1 with
      | cons r2 t2 =>
        cases t2 with
        | cons r3 t3 =>
          cases t3
          exact ⟨_, _, _, rfl, kk.nx _ _ S1 H1 ad1 h (((R1.setSl r1).setSl r2).setSl r3)⟩⟩)
/-- if -/
theorem sds_if (hc : TD X ρ c p ρ1) (ha : p = true → SDs X ρ1 body { k with nx := fun ρ' => SDs X ρ' r k }) (hb : p = false → SDs X ρ1 orelse { k with nx := fun ρ' => SDs X ρ' r k }) : SDs X ρ (.If c body orelse pos :: r) k := by
  refine sds_cons (sd_of (ps_if hc (pss_any (P := fun ρ' k' => p = true ∧ ρ' = ρ1 ∧ k' = { k with nx := fun ρ' => SDs X ρ' r k }) fun ρ' k' h => ?_) (pss_any (P := fun ρ' k' => p = false ∧ ρ' = ρ1 ∧ k' = { k with nx := fun ρ' => SDs X ρ' r k }) fun ρ' k' h => ?_)) fun Dn σ H ⟨fr, S, ad, R, kk⟩ => ⟨fr, S, ad, R, fun S1 H1 ad1 st R1 => ?_⟩)
  · obtain ⟨h1, rfl, rfl⟩ := h; exact ha h1
  · obtain ⟨h1, rfl, rfl⟩ := h; exact hb h1
  · cases p with
    | true => exact iteT ⟨ρ1, _, ⟨rfl, rfl, rfl⟩, fr, S1, ad1, R1, kk⟩
    | false => exact iteF ⟨ρ1, _, ⟨rfl, rfl, rfl⟩, fr, S1, ad1, R1, kk⟩
/-- an object of ours is given up: it is data from now on -/
def fzV (n : Nat) (d : D) : VD → VD
  | .loc j => if j = n then .d d else .loc j
  | .d x => .d x
def fzO (n : Nat) (d : D) : OD → OD
  | .ins C ns xs => .ins C ns (xs.map (fzV n d))
  | o => o
def Env.fz (ρ : Env) (n : Nat) (d : D) : Env := { ρ with sl := ρ.sl.map (Option.map (fzV n d)), ow := (ρ.ow.set n none).map (Option.map (fzO n d)) }
/-- what an object holds, as data -/
inductive ODD : OD → D → Prop
  | lst (ds : List D) : ODD (.lst ds) (.lst ds)
  | dic (ks : List Key) (ds : List D) : ODD (.dic ks ds) (.dic ks ds)
  | ins (C : Addr) (ns : List Str) {xs : List VD} {ds : List D} : AllD xs ds → ODD (.ins C ns xs) (.ins C ns ds)
theorem fzV_ok {K : PySem.W.Frag} {S : Hp} {ad : List Addr} {n : Nat} {l : Addr} {d : D} (hl : ad[n]? = some l) (hr : Rp K S (.ref l) d) {v : V} {x : VD} (h : Rv K S ad v x) : Rv K S ad v (fzV n d x) := by
  cases h with
  | d h => exact .d h
  | @loc j l' h =>
    show Rv K S ad (.ref l') (if j = n then .d d else .loc j)
    by_cases e : j = n
    · subst e
      rw [h] at hl; cases hl
      rw [if_pos rfl]; exact .d hr
    · rw [if_neg e]; exact .loc h
theorem fzAll_ok {K : PySem.W.Frag} {S : Hp} {ad : List Addr} {n : Nat} {l : Addr} {d : D} (hl : ad[n]? = some l) (hr : Rp K S (.ref l) d) : ∀ {vs : List V} {xs : List VD}, RvAll K S ad vs xs → RvAll K S ad vs (xs.map (fzV n d))
  | _, _, .nil => .nil
  | _, _, .cons h t => .cons (fzV_ok hl hr h) (fzAll_ok hl hr t)
theorem Rel.fz {K : PySem.W.Frag} {fr : Fr} {ρ : Env} {σ : L2.St} {S H : Hp} {ad : List Addr} (R : Rel K fr ρ σ S H ad) {n : Nat} {o : OD} {d : D} (hn : ρ.ow[n]? = some (some o)) (hd : ODD o d) (hm : ρ.m ≤ n) :
    ∃ S' l, Step S ad S' ad ∧ Rel K fr (ρ.fz n d) σ S' H ad ∧ ad[n]? = some l ∧ Rp K S' (.ref l) d := by
  obtain ⟨l, ho, e1, e2, e3, e4, e5⟩ := R.own n o hn
  have hst : Step S ad (upd S l ho) ad := ⟨.new e2, [], by simp⟩
  have hlt := (List.getElem?_eq_some_iff.mp hn).1
  have rp : Rp K (upd S l ho) (.ref l) d := by
    have e4 := e4.mono hst
    cases hd with
    | lst ds => cases ho <;> first | exact e4.elim | exact .lst (SqL.of upd_same) e4
    | dic ks ds =>
      cases ho <;> first | exact e4.elim | skip
      obtain ⟨vs, h1, h2, h3⟩ := e4
      subst h1
      exact .dic upd_same h2 h3
    | ins C ns hA =>
      cases ho <;> first | exact e4.elim | skip
      obtain ⟨h0, vs, h1, h2, h3⟩ := e4
      subst h0 h1
      exact .ins upd_same h2 (hA.rp h3)
  refine ⟨upd S l ho, l, hst, ⟨⟨R.grow.s.trans hst.s, fun a u e => ?_, R.grow.h, fun a h1 h2 => ?_⟩, fun i x e => ?_, fun j u e => ?_, R.mm, R.nd, ?_, ?_, fun j hj => ?_, R.lv⟩, e1, rp⟩
  · by_cases h : a = l
    · subst h; rw [upd_same] at e; cases e; exact e3
    · rw [upd_ne h] at e; exact R.grow.sh a u e
  · have ne : a ≠ l := fun z => h2 (z ▸ e5 hm)
    rw [upd_ne ne]; exact R.grow.n a h1 h2
  · have e' : (ρ.sl.map (Option.map (fzV n d)))[i]? = some (some x) := e
    rw [List.getElem?_map] at e'
    cases q : ρ.sl[i]? with
    | none => rw [q] at e'; cases e'
    | some y =>
      rw [q] at e'
      cases y with
      | none => cases e'
      | some y =>
        have e'' : fzV n d y = x := by simpa using e'
        obtain ⟨v, f1, f2⟩ := R.slots i y q
        exact ⟨v, f1, e'' ▸ fzV_ok e1 rp (f2.mono hst)⟩
  · have e' : ((ρ.ow.set n none).map (Option.map (fzO n d)))[j]? = some (some u) := e
    rw [List.getElem?_map] at e'
    by_cases hj : j = n
    · subst hj
      rw [List.getElem?_set_self hlt] at e'; cases e'
    · rw [List.getElem?_set_ne (Ne.symm hj)] at e'
      cases q : ρ.ow[j]? with
      | none => rw [q] at e'; cases e'
      | some y =>
        rw [q] at e'
        cases y with
        | none => cases e'
        | some y =>
          have e'' : fzO n d y = u := by simpa using e'
          obtain ⟨l2, u2, f1, f2, f3, f4, f5⟩ := R.own j y q
          have ne : l2 ≠ l := fun z => by subst z; exact hj (nodup_ixA R.nd f1 e1)
          refine ⟨l2, u2, f1, by rw [upd_ne ne]; exact f2, f3, ?_, f5⟩
          have f4 := f4.mono hst
          subst e''
          cases u2 <;> cases y <;> first | exact f4.elim | exact f4 | skip
          obtain ⟨h0, vs, h1, h2, h3⟩ := f4
          exact ⟨h0, vs, h1, h2, fzAll_ok e1 rp h3⟩
  · show (ρ.sl.map _).length = _
    rw [List.length_map]; exact R.len
  · show _ = ((ρ.ow.set n none).map _).length
    rw [List.length_map, List.length_set]; exact R.al
  · obtain ⟨o', e⟩ := R.ml j hj
    have hj2 : ρ.m = (ρ.fz n d).m := rfl
    have hj' : j ≠ n := by
      have : j < ρ.m := hj
      omega
    refine ⟨fzO n d o', ?_⟩
    show ((ρ.ow.set n none).map (Option.map (fzO n d)))[j]? = _
    rw [List.getElem?_map, List.getElem?_set_ne (Ne.symm hj'), e]; rfl
/-- give an object up -/
theorem sds_fz (n : Nat) {o : OD} {d : D} (hn : ρ.ow[n]? = some (some o)) (hd : ODD o d) (hm : ρ.m ≤ n) (h : SDs X (ρ.fz n d) r k) : SDs X ρ r k :=
  sds_of h fun Dn σ H ⟨fr, S, ad, R, kk⟩ => by
    obtain ⟨S', l, _, R', _⟩ := R.fz hn hd hm
    exact ⟨fr, S', ad, R', kk⟩
/-- an expression's object, given up -/
theorem ED.fz {n : Nat} {o : OD} {d : D} (he : ED X ρ e (.loc n) ρ1) (hn : ρ1.ow[n]? = some (some o)) (hd : ODD o d) (hm : ρ1.m ≤ n) : ED X ρ e (.d d) (ρ1.fz n d) :=
  ed_of he fun σ H Q ⟨fr, S, ad, R, kk⟩ => ⟨fr, S, ad, R, fun S1 H1 ad1 v st R1 r1 => by
    obtain ⟨S2, l, st2, R2, e1, rp⟩ := R1.fz hn hd hm
    obtain ⟨l', e2, e3⟩ := r1.dl
    rw [e1] at e3; cases e3
    subst e2
    exact kk S2 H1 ad1 _ (st.trans st2) R2 (.d rp)⟩
/-- the state seen otherwise (an equal one) -/
theorem sds_eq (h : SDs X ρ1 r k) (e : ρ = ρ1) : SDs X ρ r k := e ▸ h
/-! ### targets -/
theorem gd_name (i : Nat) {n : Str} (hN : X.N.Nodup) (hi : X.N[i]? = some n) (hx : Loc X.env.scope n) (hf : X.fn n = true ∨ X.env.scope.names.lookup n = some .local) : GD X [i] ρ (.Name n pos) x (ρ.put i x) :=
  gd_of (pg_name hN hi hx hf) fun v σ H Q ⟨fr, S, ad, R, rv, k⟩ => k _ S H ad (.refl _ _) (R.setSl rv) (by simp) fun j hj => List.getElem?_set_ne (by simp at hj; exact fun z => hj z.symm)
theorem gds_nil : GDs X [] ρ [] [] ρ := ⟨fun pins s σ H vs us Q I rv ⟨fr, S, ad, R, rs, k⟩ => by
  cases rs
  exact pgs_nil.run pins s σ H [] us Q I rv ⟨rfl, k σ S H ad (.refl _ _) R rfl fun _ _ => rfl⟩⟩
theorem gds_cons {vs ws : List Nat} {xs : List VD} (h1 : GD X vs ρ e x ρ1) (h2 : GDs X ws ρ1 es xs ρ2) (hs : (assignEach (e :: es) X.env).map (·.2) = assign e X.env :: (assignEach es X.env).map (·.2) := by rfl) : GDs X (vs ++ ws) ρ (e :: es) (x :: xs) ρ2 :=
  ⟨fun pins s σ H vs' us Q I rv ⟨fr, S, ad, R, rs, k⟩ => by
    cases rs with
    | cons ra rb =>
      refine (pgs_cons h1 h2 hs).run pins s σ H _ us Q I rv ⟨_, _, rfl, fr, S, ad, R, ra, fun σ1 S1 H1 ad1 st R1 hl hj => ⟨fr, S1, ad1, R1, rb.mono st, fun σ2 S2 H2 ad2 st2 R2 hl2 hj2 => ?_⟩⟩
      exact k σ2 S2 H2 ad2 (st.trans st2) R2 (hl2.trans hl) fun j hn => by
        simp only [List.mem_append, not_or] at hn
        rw [hj2 j hn.2, hj j hn.1]⟩
theorem gd_tup {vs : List Nat} {xs : List VD} {ds : List D} {n kk : Nat} (hc : X.calm = true) (h : GDs X vs ρ es (ds.map VD.d) ρ1) (hl : ds.length = n) (hn : (assignEach es X.env).length = n) (hst : (assignEach es X.env).findIdx? (·.1) = none) :
    GD X vs ρ (.Tuple es kk pos) (.d (.tup ds)) ρ1 :=
  gd_of (pg_tup hc h hn hst) fun v σ H Q ⟨fr, S, ad, R, rv, k⟩ => by
    obtain ⟨a, ws, e1, e2, e3⟩ := rv.dd.tup_inv
    exact ⟨a, ws, e1, ex_t R.grow.sh e2, by rw [e3.length]; exact hl, fr, S, ad, R, .of_d e3, k⟩
/-- target = e -/
theorem sds_asg {tg : Expr} {vs : List Nat} (he : ED X ρ e x ρ1) (hg : GD X vs ρ1 tg x ρ2) (h : SDs X ρ2 r k) (hs : swapsWithSole [tg] e pos.line X.env = pure false) (hw : swappedStores [tg] e X.env = pure none)
    (h1 : (assignEach [tg] X.env).map (·.2) = [assign tg X.env]) : SDs X ρ (.Assign [tg] e pos :: r) k :=
  sds_cons (sd_of (ps_asg he hg hs hw h1) fun Dn σ H ⟨fr, S, ad, R, kk⟩ => ⟨fr, S, ad, R, fun S1 H1 ad1 v st R1 r1 => ⟨fr, S1, ad1, R1, r1, fun σ' S' H' ad' st' R' _ _ => kk.nx ρ2 σ' S' H' ad' h R'⟩⟩)
end
end DL

namespace DL
open PySem PySem.Spec PyProof.Rows L2

/-! ### what is walked -/
/-- at turn i it gives ds[i]; the heap stays, or one new thing comes -/
def YD (K : PySem.W.Frag) (S0 : Hp) (ds : List D) : Nat → Hp → V → Hp → Prop := fun i H x H1 => ∀ S, Ex S0 S → Ex S H → ∃ d, ds[i]? = some d ∧
  ((H1 = H ∧ Rp K S x d) ∨ ∃ p o, H p = none ∧ H1 = upd H p o ∧ Rp K (upd S p o) x d)
def tI (K : PySem.W.Frag) (ρ : Env) (ds : List D) (ρ' : Env) : TI := fun σ H R => ∃ fr S ad, Rel K fr ρ σ S H ad ∧ ∀ S' H' ad' J, Step S ad S' ad' → Rel K fr ρ' σ S' H' ad' → Walk J ds.length (fun H'' => Ex S' H'') (YD K S' ds) → R J H'
def ItD (X : Cx) (ρ : Env) (tg iter : Expr) (ds : List D) (ρ' : Env) : Prop := PI X tg iter (tI X.K ρ ds ρ')
section
variable {X : Cx} {ρ ρ' ρ1 ρ2 ρ3 : Env} {e a b c tg iter : Expr} {es rest : List Expr} {x y z : VD} {pos : Pos} {p q : Bool} {st : Stmt} {r body orelse : List Stmt} {k : Kn} {ds : List D}
theorem it_of {t : TI} (h : PI X tg iter t) (q : ∀ σ H R, tI X.K ρ ds ρ' σ H R → t σ H R) : ItD X ρ tg iter ds ρ' := ⟨fun pins s σ H R I hq => h.run pins s σ H R I (q σ H R hq)⟩
/-- a turn's item, by the state -/
theorem Rel.item {K : PySem.W.Frag} {fr : Fr} {ρ : Env} {σ : L2.St} {S H H1 S0 : Hp} {ad : List Addr} {i : Nat} {x : V} (R : Rel K fr ρ σ S H ad) (h0 : Ex S0 S) (h : YD K S0 ds i H x H1) :
    ∃ S1 d, ds[i]? = some d ∧ Step S ad S1 ad ∧ Rel K fr ρ σ S1 H1 ad ∧ Rp K S1 x d := by
  obtain ⟨d, hd, h⟩ := h S h0 R.grow.sh
  rcases h with ⟨e, rp⟩ | ⟨p, o, hp, e, rp⟩
  · subst e; exact ⟨S, d, hd, .refl _ _, R, rp⟩
  · subst e
    obtain ⟨R2, st2⟩ := R.newS (o := o) hp
    exact ⟨_, d, hd, st2, R2, rp⟩
theorem Rel.up {K : PySem.W.Frag} {fr : Fr} {ρ ρ1 : Env} {σ σ1 : L2.St} {S H S1 H1 : Hp} {ad ad1 : List Addr} (R1 : Rel K fr ρ1 σ1 S1 H1 ad1) (R : Rel K fr ρ σ S H ad) (e : Ex S1 S) : Rel K ⟨fr.M, S1, fr.H⟩ ρ σ S H ad :=
  ⟨⟨e, R.grow.sh, R.grow.h, fun a h1 h2 => R.grow.n a (R1.grow.s.back h1) h2⟩, R.slots, R.own, R.mm, R.nd, R.len, R.al, R.ml, R.lv⟩
theorem Rel.down {K : PySem.W.Frag} {fr : Fr} {ρ ρ1 : Env} {σ σ1 : L2.St} {S H S1 H1 : Hp} {ad ad1 : List Addr} (R1 : Rel K fr ρ1 σ1 S1 H1 ad1) (R : Rel K ⟨fr.M, S1, fr.H⟩ ρ σ S H ad) : Rel K fr ρ σ S H ad ∧ Ex S1 S :=
  ⟨⟨⟨R1.grow.s.trans R.grow.s, R.grow.sh, R.grow.h, fun a h1 h2 => R.grow.n a (R1.grow.n a h1 h2) h2⟩, R.slots, R.own, R.mm, R.nd, R.len, R.al, R.ml, R.lv⟩, R.grow.s⟩
def fG (K : PySem.W.Frag) (vs : List Nat) (P : Nat → D → Env → Env → Prop) : TG := fun v σ H Q => ∃ (i : Nat) (d : D) (ρ ρ' : Env), P i d ρ ρ' ∧ tG K vs ρ (.d d) ρ' v σ H Q
def fB (X : Cx) (body : List Stmt) : TS := fun Dn σ H => ∃ ρ' k', SDs X ρ' body k' ∧ tS X.K ρ' k' Dn σ H
theorem fB_ok (body : List Stmt) : PSs X body (fB X body) := pss_any (P := fun ρ' k' => SDs X ρ' body k') fun _ _ h => h
theorem fG_ok {vs : List Nat} {P : Nat → D → Env → Env → Prop} (h : ∀ i d ρ ρ', P i d ρ ρ' → GD X vs ρ tg (.d d) ρ') : PG X tg (fG X.K vs P) :=
  ⟨fun pins s σ H v u Q I rv ⟨i, d, ρ, ρ', h1, hq⟩ => (h i d ρ ρ' h1).run pins s σ H v u Q I rv hq⟩
/-- for target in iter: body -/
theorem sds_for {vs : List Nat} (hi : ItD X ρ tg iter ds ρ1) (I : Nat → Env → Prop) (h0 : I 0 ρ1)
    (hs : ∀ i d ρ, ds[i]? = some d → I i ρ → ∃ ρ', GD X vs ρ tg (.d d) ρ' ∧ SDs X ρ' body { nx := I (i + 1), ct := I (i + 1), bk := fun ρ' => SDs X ρ' r k, rt := k.rt })
    (hd : ∀ ρ, I ds.length ρ → SDs X ρ r k) (hp : PassesOwn (model X.prog X.w) X.A X.env X.xe) (hc : X.calm = true) (hfs : ∀ x, foldedSetIterable iter X.env x = pure x) : SDs X ρ (.For tg iter body [] pos :: r) k := by
  have hg : PG X tg (fG X.K vs fun i d ρ ρ' => ds[i]? = some d ∧ GD X vs ρ tg (.d d) ρ') := fG_ok fun i d ρ ρ' h => h.2
  refine sds_cons (sd_of (ps_for hp hc hi hg (fB_ok body) hfs) fun Dn σ H ⟨fr, S, ad, R, kk⟩ => ⟨fr, S, ad, R, fun S1 H1 ad1 J st1 R1 w => ?_⟩)
  refine for_it (g := fG X.K vs fun i d ρ ρ' => ds[i]? = some d ∧ GD X vs ρ tg (.d d) ρ') (tb := fB X body) (D := Dn) w (fun i σ' H' => ∃ ρ S' ad', I i ρ ∧ Rel X.K fr ρ σ' S' H' ad' ∧ Ex S1 S') ⟨ρ1, S1, ad1, h0, R1, .refl _⟩ (fun i σ' H' _ ⟨ρ, S', ad', _, R', e⟩ => e.trans R'.grow.sh) ?_ ?_
  · rintro i xv σ' H' H2 hlt ⟨ρ', S', ad', hI, R', e⟩ hy
    obtain ⟨S2, d, hd1, st2, R2, rp⟩ := R'.item e hy
    obtain ⟨ρ2, hg2, hb2⟩ := hs i d ρ' hd1 hI
    have Ru := R1.up R2 (e.trans st2.s)
    refine ⟨i, d, ρ', ρ2, ⟨hd1, hg2⟩, ⟨fr.M, S1, fr.H⟩, S2, ad', Ru, .d rp, fun σ3 S3 H3 ad3 st3 R3 _ _ => ⟨ρ2, _, hb2, ⟨fr.M, S1, fr.H⟩, S3, ad3, R3, fun ρ4 σ4 S4 H4 ad4 hn R4 => ?_, fun d4 ρ4 σ4 S4 H4 ad4 v4 hr R4 rp4 => kk.rt d4 ρ4 σ4 S4 H4 ad4 v4 hr (R1.down R4).1 rp4, fun ρ4 σ4 S4 H4 ad4 hn R4 => kk.nx ρ4 σ4 S4 H4 ad4 hn (R1.down R4).1, fun ρ4 σ4 S4 H4 ad4 hn R4 => ?_⟩⟩
    · obtain ⟨R5, e5⟩ := R1.down R4
      exact ⟨ρ4, S4, ad4, hn, R5, e5⟩
    · obtain ⟨R5, e5⟩ := R1.down R4
      exact ⟨ρ4, S4, ad4, hn, R5, e5⟩
  · rintro σ' H' ⟨ρ', S', ad', hI, R', e⟩
    exact kk.nx ρ' σ' S' H' ad' (hd ρ' hI) R'
/-- while test: body -/
theorem sds_while (I : Env → Prop) (μ : Env → Nat) (h0 : I ρ) (hs : ∀ ρ, I ρ → ∃ p ρ1, TD X ρ c p ρ1 ∧ (p = true → SDs X ρ1 body { nx := fun ρ' => I ρ' ∧ μ ρ' < μ ρ, ct := fun ρ' => I ρ' ∧ μ ρ' < μ ρ, bk := fun ρ' => SDs X ρ' r k, rt := k.rt }) ∧ (p = false → SDs X ρ1 r k))
    (hp : PassesOwn (model X.prog X.w) X.A X.env X.xe) : SDs X ρ (.While c body [] pos :: r) k := by
  have hc : PT X c (fun σ H Q => ∃ ρ p ρ1, TD X ρ c p ρ1 ∧ tT X.K ρ p ρ1 σ H Q) := ⟨fun pins s σ H Q I ⟨ρ, p, ρ1, h1, hq⟩ => h1.run pins s σ H Q I hq⟩
  refine sds_cons (sd_of (ps_while hp hc (fB_ok body)) fun Dn σ H ⟨fr, S, ad, R, kk⟩ => ?_)
  refine ⟨fun m σ' H' => ∃ ρ S' ad', I ρ ∧ m = μ ρ ∧ Rel X.K fr ρ σ' S' H' ad', ⟨μ ρ, ρ, S, ad, h0, rfl, R⟩, ?_⟩
  rintro m σ' H' ⟨ρ', S', ad', hI, rfl, R'⟩
  obtain ⟨p, ρ1, h1, h2, h3⟩ := hs ρ' hI
  refine ⟨ρ', p, ρ1, h1, fr, S', ad', R', fun S2 H2 ad2 st2 R2 => ?_⟩
  cases p with
  | false => exact iteF (kk.nx ρ1 σ' S2 H2 ad2 (h3 rfl) R2)
  | true =>
    refine iteT ⟨fun σ4 H4 => ∃ ρ4 S4 ad4, I ρ4 ∧ μ ρ4 < μ ρ' ∧ Rel X.K fr ρ4 σ4 S4 H4 ad4, fun σ4 H4 ⟨ρ4, S4, ad4, a1, a2, a3⟩ => ⟨μ ρ4, a2, ρ4, S4, ad4, a1, rfl, a3⟩, ρ1, _, h2 rfl, fr, S2, ad2, R2, ?_⟩
    exact ⟨fun ρ4 σ4 S4 H4 ad4 hn R4 => ⟨ρ4, S4, ad4, hn.1, hn.2, R4⟩, kk.rt, fun ρ4 σ4 S4 H4 ad4 hn R4 => kk.nx ρ4 σ4 S4 H4 ad4 hn R4, fun ρ4 σ4 S4 H4 ad4 hn R4 => ⟨ρ4, S4, ad4, hn.1, hn.2, R4⟩⟩
/-! ### things that are walked -/
theorem yd_at {K : PySem.W.Frag} {S0 : Hp} {vs : List V} (h : RpAll K S0 vs ds) {i : Nat} {H : Hp} {x : V} {H1 : Hp} (q : YAt vs i H x H1) : YD K S0 ds i H x H1 := fun S e _ => by
  obtain ⟨d, h1, h2⟩ := h.get q.2
  exact ⟨d, h1, .inl ⟨q.1, h2.mono e⟩⟩
theorem it_list (h : ED X ρ e (.d (.lst ds)) ρ1) : ItD X ρ tg e ds ρ1 := it_of (pi_list h) fun σ H Q ⟨fr, S, ad, R, k⟩ => ⟨fr, S, ad, R, fun S1 H1 ad1 v st1 R1 r1 => by
  obtain ⟨a, vs, e1, e2, e3⟩ := r1.dd.lst_inv
  subst e1
  refine ⟨a, rfl, ⟨vs, ex_l R1.grow.sh e2⟩, k S1 H1 ad1 _ st1 R1 ?_⟩
  have w := walk_list (K := X.K) (a := a) (xs := vs)
  rw [e3.length] at w
  exact w.mono (fun H h => ex_l h e2) fun i H x H' _ _ y => yd_at e3 y⟩
theorem it_tup (h : ED X ρ e (.d (.tup ds)) ρ1) : ItD X ρ tg e ds ρ1 := it_of (pi_tup h) fun σ H Q ⟨fr, S, ad, R, k⟩ => ⟨fr, S, ad, R, fun S1 H1 ad1 v st1 R1 r1 => by
  obtain ⟨a, vs, e1, e2, e3⟩ := r1.dd.tup_inv
  subst e1
  refine ⟨a, rfl, ⟨vs, ex_t R1.grow.sh e2⟩, k S1 H1 ad1 _ st1 R1 ?_⟩
  have w := walk_tup (K := X.K) (a := a) (xs := vs)
  rw [e3.length] at w
  exact w.mono (fun H h => ex_t h e2) fun i H x H' _ _ y => yd_at e3 y⟩
/-- range(lo, hi) as data -/
def rngD (lo : Int) (n : Nat) : List D := (List.range n).map fun (i : Nat) => D.int (lo + (i : Int))
theorem rngD_length (lo : Int) (n : Nat) : (rngD lo n).length = n := by simp [rngD]
theorem rngD_get {lo : Int} {n i : Nat} {d : D} (h : (rngD lo n)[i]? = some d) : i < n ∧ d = .int (lo + i) := by
  have hlt := (List.getElem?_eq_some_iff.mp h).1
  rw [rngD_length] at hlt
  refine ⟨hlt, ?_⟩
  simp [rngD, hlt] at h
  exact h.symm
theorem walk_rngD {K : PySem.W.Frag} {S0 : Hp} {lo : Int} {n : Nat} {G : Hp → Prop} : Walk (Itr lo n) (rngD lo n).length G (YD K S0 (rngD lo n)) := by
  rw [rngD_length]
  refine (walk_range (lo := lo) (n := n)).mono (fun _ _ => trivial) fun i H x H' hi _ y S _ _ => ⟨.int (lo + i), ?_, .inl ⟨y.1, ?_⟩⟩
  · simp [rngD, hi]
  · rw [y.2]; exact .int _
theorem it_range1 {j : Int} {pp : Pos} (ha : ED X ρ a (.d (.int j)) ρ1) (hg : Gl X "range") (hm : X.mg "range" = none) (hb : -(2 ^ 62) ≤ j ∧ j < 2 ^ 62) (hs : starEach [a] X.env = [(false, eval a X.env)] := by rfl) :
    ItD X ρ tg (.Call (.Name "range" pp) [a] [] pos) (rngD 0 j.toNat) ρ1 := it_of (pi_range1 hg hm (ad_cons ha ad_nil (hs.trans rfl)) hs) fun σ H Q ⟨fr, S, ad, R, k⟩ => ⟨fr, S, ad, R, fun S1 H1 ad1 vs st1 R1 r1 => by
  cases r1 with
  | cons r1 t => cases t; rw [r1.di]; exact ⟨j, rfl, hb.1, hb.2, k S1 H1 ad1 _ st1 R1 walk_rngD⟩⟩
theorem it_range2 {i j : Int} {pp : Pos} (ha : ED X ρ a (.d (.int i)) ρ1) (hb' : ED X ρ1 b (.d (.int j)) ρ2) (hg : Gl X "range") (hm : X.mg "range" = none) (hb : -(2 ^ 62) ≤ i ∧ i < 2 ^ 62 ∧ -(2 ^ 62) ≤ j ∧ j < 2 ^ 62)
    (hs : starEach [a, b] X.env = [(false, eval a X.env), (false, eval b X.env)] := by rfl) (hs2 : starEach [b] X.env = [(false, eval b X.env)] := by rfl) :
    ItD X ρ tg (.Call (.Name "range" pp) [a, b] [] pos) (rngD i (j - i).toNat) ρ2 := it_of (pi_range2 hg hm (ad_cons ha (ad_cons hb' ad_nil (hs2.trans rfl)) (by rw [hs, hs2])) hs hs2) fun σ H Q ⟨fr, S, ad, R, k⟩ => ⟨fr, S, ad, R, fun S1 H1 ad1 vs st1 R1 r1 => by
  cases r1 with
  | cons r1 t =>
    cases t with
    | cons r2 t => cases t; rw [r1.di, r2.di]; exact ⟨i, j, rfl, hb, k S1 H1 ad1 _ st1 R1 walk_rngD⟩⟩
end
end DL

namespace DL
open PySem PySem.Spec PyProof.Rows L2

/-! ### an object aside: as if it had stood at the entry -/
def frD (fr : Fr) (p : Addr) (o : HO) : Fr := ⟨fr.M, fr.S, upd fr.H p o⟩
section
variable {K : PySem.W.Frag} {fr : Fr} {ρ : Env} {σ : L2.St} {S H : Hp} {ad : List Addr} {p : Addr} {o o' : HO}
theorem Rel.notM' (R : Rel K fr ρ σ S H ad) (hp : H p = none) : p ∉ fr.M := fun h => by
  obtain ⟨_, _, _, _, _, _, _, e⟩ := R.atM h
  rw [hp] at e; cases e
theorem Rel.fr0 (R : Rel K fr ρ σ S H ad) (hp : H p = none) : fr.H p = none := by
  cases q : fr.H p with
  | none => rfl
  | some u => exact absurd hp (R.old (by rw [q]; simp))
theorem Rel.ext (R : Rel K fr ρ σ S H ad) (hp : H p = none) : Rel K (frD fr p o) ρ σ S (upd H p o) ad := by
  have hS : S p = none := R.grow.sh.back hp
  refine ⟨⟨R.grow.s, R.grow.sh.mut hS, fun a u e hm => ?_, fun a h1 h2 => ?_⟩, R.slots, fun n u e => ?_, R.mm, R.nd, R.len, R.al, R.ml, fun l hl => upd_some (R.lv l hl)⟩
  · by_cases h : a = p
    · subst h
      have e : upd fr.H a o a = some u := e
      rw [upd_same] at e ⊢; exact e
    · have e : upd fr.H p o a = some u := e
      rw [upd_ne h] at e ⊢; exact R.grow.h a u e hm
  · by_cases h : a = p
    · subst h; exact hS
    · have h2 : upd fr.H p o a ≠ none := h2
      rw [upd_ne h] at h2; exact R.grow.n a h1 h2
  · obtain ⟨l, ho, e1, e2, e3, e4, e5⟩ := R.own n u e
    have hl : l ≠ p := ne_of_none e3 hp
    exact ⟨l, ho, e1, e2, by rw [upd_ne hl]; exact e3, e4, fun hm => by show upd fr.H p o l = none; rw [upd_ne hl]; exact e5 hm⟩
theorem Rel.extAt (R : Rel K (frD fr p o) ρ σ S H ad) (hM : p ∉ fr.M) (hS : fr.S p = none) : H p = some o ∧ S p = none :=
  ⟨R.grow.h p o upd_same hM, R.grow.n p hS (by show upd fr.H p o p ≠ none; rw [upd_same]; simp)⟩
theorem Rel.extNe (R : Rel K (frD fr p o) ρ σ S H ad) (hM : p ∉ fr.M) {n : Nat} {u : OD} {l : Addr} (e : ρ.ow[n]? = some (some u)) (hl : ad[n]? = some l) : l ≠ p := fun z => by
  subst z
  obtain ⟨l', ho, e1, e2, e3, e4, e5⟩ := R.own n u e
  rw [hl] at e1; cases e1
  by_cases hm : ρ.m ≤ n
  · have : upd fr.H l o l = none := e5 hm
    rw [upd_same] at this; cases this
  · exact hM (R.inM hl (by omega))
theorem Rel.extSet (R : Rel K (frD fr p o) ρ σ S H ad) (hM : p ∉ fr.M) (hS : fr.S p = none) : Rel K (frD fr p o') ρ σ S (upd H p o') ad := by
  obtain ⟨hp, hSp⟩ := R.extAt hM hS
  refine ⟨⟨R.grow.s, R.grow.sh.mut hSp, fun a u e hm => ?_, fun a h1 h2 => ?_⟩, R.slots, fun n u e => ?_, R.mm, R.nd, R.len, R.al, R.ml, fun l hl => upd_some (R.lv l hl)⟩
  · by_cases h : a = p
    · subst h
      have e : upd fr.H a o' a = some u := e
      rw [upd_same] at e ⊢; exact e
    · have e : upd fr.H p o' a = some u := e
      rw [upd_ne h] at e ⊢; exact R.grow.h a u (by show upd fr.H p o a = some u; rw [upd_ne h]; exact e) hm
  · by_cases h : a = p
    · subst h; exact hSp
    · have h2 : upd fr.H p o' a ≠ none := h2
      rw [upd_ne h] at h2; exact R.grow.n a h1 (by show upd fr.H p o a ≠ none; rw [upd_ne h]; exact h2)
  · obtain ⟨l, ho, e1, e2, e3, e4, e5⟩ := R.own n u e
    have hl : l ≠ p := R.extNe hM e e1
    exact ⟨l, ho, e1, e2, by rw [upd_ne hl]; exact e3, e4, fun hm => by
      have := e5 hm
      show upd fr.H p o' l = none
      have this : upd fr.H p o l = none := this
      rw [upd_ne hl] at this ⊢; exact this⟩
/-- the object aside is data from now on -/
theorem Rel.extTake (R : Rel K (frD fr p o) ρ σ S H ad) (hM : p ∉ fr.M) (hS : fr.S p = none) (h0 : fr.H p = none) : Rel K fr ρ σ (upd S p o) H ad ∧ Step S ad (upd S p o) ad := by
  obtain ⟨hp, hSp⟩ := R.extAt hM hS
  have hst : Step S ad (upd S p o) ad := ⟨.new hSp, [], by simp⟩
  refine ⟨⟨⟨R.grow.s.trans hst.s, fun a u e => ?_, fun a u e hm => ?_, fun a h1 h2 => ?_⟩, fun i x e => ?_, fun n u e => ?_, R.mm, R.nd, R.len, R.al, R.ml, R.lv⟩, hst⟩
  · by_cases h : a = p
    · subst h; rw [upd_same] at e; cases e; exact hp
    · rw [upd_ne h] at e; exact R.grow.sh a u e
  · have h : a ≠ p := fun z => by rw [z, h0] at e; cases e
    exact R.grow.h a u (by show upd fr.H p o a = some u; rw [upd_ne h]; exact e) hm
  · have h : a ≠ p := fun z => h2 (z ▸ h0)
    rw [upd_ne h]
    exact R.grow.n a h1 (by show upd fr.H p o a ≠ none; rw [upd_ne h]; exact h2)
  · obtain ⟨v, e1, e2⟩ := R.slots i x e
    exact ⟨v, e1, e2.mono hst⟩
  · obtain ⟨l, ho, e1, e2, e3, e4, e5⟩ := R.own n u e
    have hl : l ≠ p := R.extNe hM e e1
    exact ⟨l, ho, e1, by rw [upd_ne hl]; exact e2, e3, e4.mono hst, fun hm => by
      have this : upd fr.H p o l = none := e5 hm
      rw [upd_ne hl] at this; exact this⟩
end
/-! ### slots forgotten -/
def wpE (sl : List (Option VD)) : List Nat → List (Option VD)
  | [] => sl
  | v :: vs => (wpE sl vs).set v none
theorem wpE_length (sl : List (Option VD)) : ∀ vs, (wpE sl vs).length = sl.length
  | [] => rfl
  | v :: vs => by unfold wpE; rw [List.length_set, wpE_length sl vs]
theorem wpE_some {sl : List (Option VD)} {i : Nat} {x : VD} : ∀ {vs : List Nat}, (wpE sl vs)[i]? = some (some x) → sl[i]? = some (some x) ∧ i ∉ vs
  | [], h => ⟨h, by simp⟩
  | v :: vs, h => by
    unfold wpE at h
    by_cases hi : v = i
    · subst hi
      by_cases hv : v < (wpE sl vs).length
      · rw [List.getElem?_set_self hv] at h; cases h
      · rw [List.getElem?_eq_none (by simpa using hv)] at h; cases h
    · rw [List.getElem?_set_ne hi] at h
      obtain ⟨h1, h2⟩ := wpE_some h
      exact ⟨h1, by simp only [List.mem_cons, not_or]; exact ⟨fun e => hi e.symm, h2⟩⟩
theorem wipe_in {σ : L2.St} {i : Nat} : ∀ {vs : List Nat}, i ∈ vs → i < σ.length → (wipe σ vs)[i]? = some none
  | [], h, _ => by cases h
  | v :: vs, h, hl => by
    unfold wipe
    by_cases hi : v = i
    · subst hi; exact List.getElem?_set_self (by rw [wipe_length]; exact hl)
    · rw [List.getElem?_set_ne hi]
      rcases List.mem_cons.mp h with z | z
      · exact absurd z.symm hi
      · exact wipe_in z hl
theorem wipe_eq {σ τ : L2.St} {vs gv : List Nat} (hl : τ.length = σ.length) (hj : ∀ j, j ∉ gv → τ[j]? = (wipe σ vs)[j]?) (hv : ∀ j ∈ gv, j ∈ vs) : wipe τ vs = wipe σ vs := by
  apply List.ext_getElem?
  intro j
  by_cases h : j ∈ vs
  · by_cases hlt : j < σ.length
    · rw [wipe_in h hlt, wipe_in h (by rw [hl]; exact hlt)]
    · rw [List.getElem?_eq_none (by rw [wipe_length, hl]; omega), List.getElem?_eq_none (by rw [wipe_length]; omega)]
  · rw [wipe_out h, hj j fun z => h (hv j z)]
theorem Rel.wiped {K : PySem.W.Frag} {fr : Fr} {ρ : Env} {σ : L2.St} {S H : Hp} {ad : List Addr} (R : Rel K fr ρ σ S H ad) (vs : List Nat) : Rel K fr { ρ with sl := wpE ρ.sl vs } (wipe σ vs) S H ad :=
  R.weak (by rw [wpE_length, wipe_length]; exact R.len) fun i x e => by
    obtain ⟨h1, h2⟩ := wpE_some e
    exact ⟨h1, wipe_out h2⟩
/-! ### list comprehensions -/
abbrev Blk (X : Cx) (scope : Scope) (P : Cx → Prop) : Prop := ∀ (s : Shared) (H : Hp) (C : Addr) (cl : List (Str × Addr)) (fp : List Addr), P (X.blk s H scope (compEnvC scope cl C X.env) fp)
def TDs (X : Cx) (ρ : Env) (ifs : List Expr) (b : Bool) (ρ' : Env) : Prop := PTs X ifs (tT X.K ρ b ρ')
section
variable {X : Cx} {ρ ρ' ρ1 ρ2 ρ3 : Env} {e a b c tg iter elt : Expr} {es rest ifs : List Expr} {x y z : VD} {pos : Pos} {p q : Bool} {st : Stmt} {r body orelse : List Stmt} {k : Kn} {ds : List D}
theorem tds_nil : TDs X ρ [] true ρ := ⟨fun pins s σ H Q I ⟨fr, S, ad, R, k⟩ => pts_nil.run pins s σ H Q I (k S H ad (.refl _ _) R)⟩
theorem tds_one (h : TD X ρ c p ρ1) : TDs X ρ [c] p ρ1 := pts_one h
/-- what one turn does: ow the objects ahead, acc the list so far -/
def LcTurn (X : Cx) (scope : Scope) (gv vs : List Nat) (ρ1 : Env) (tg elt : Expr) (ifs : List Expr) (I : List D → List (Option OD) → Prop) (d : D) (acc : List D) (ow : List (Option OD)) : Prop :=
  ∃ sl2 p ow3, Blk X scope (fun Y => GD Y gv { ρ1 with sl := wpE ρ1.sl vs, ow := ow } tg (.d d) { ρ1 with sl := sl2, ow := ow }) ∧
    Blk X scope (fun Y => TDs Y { ρ1 with sl := sl2, ow := ow } ifs p { ρ1 with sl := sl2, ow := ow3 }) ∧
    (p = true → ∃ e ow4, Blk X scope (fun Y => ED Y { ρ1 with sl := sl2, ow := ow3 } elt (.d e) { ρ1 with sl := sl2, ow := ow4 }) ∧ I (acc ++ [e]) ow4) ∧ (p = false → I acc ow3)
def bG (X : Cx) (scope : Scope) (gv : List Nat) (tg : Expr) : TG := fun v σ H Q => ∃ ρ x ρ', Blk X scope (fun Y => GD Y gv ρ tg x ρ') ∧ tG X.K gv ρ x ρ' v σ H Q
def bT (X : Cx) (scope : Scope) (ifs : List Expr) : TT := fun σ H Q => ∃ ρ p ρ', Blk X scope (fun Y => TDs Y ρ ifs p ρ') ∧ tT X.K ρ p ρ' σ H Q
def bE (X : Cx) (scope : Scope) (elt : Expr) : TE := fun σ H Q => ∃ ρ x ρ', Blk X scope (fun Y => ED Y ρ elt x ρ') ∧ tE X.K ρ x ρ' σ H Q
theorem bG_ok {scope : Scope} {gv : List Nat} : Blk X scope (fun Y => PG Y tg (bG X scope gv tg)) := fun s H C cl fp => ⟨fun pins s' σ H' v u Q I rv ⟨ρ, x, ρ', h1, hq⟩ => (h1 s H C cl fp).run pins s' σ H' v u Q I rv hq⟩
theorem bT_ok {scope : Scope} : Blk X scope (fun Y => PTs Y ifs (bT X scope ifs)) := fun s H C cl fp => ⟨fun pins s' σ H' Q I ⟨ρ, x, ρ', h1, hq⟩ => (h1 s H C cl fp).run pins s' σ H' Q I hq⟩
theorem bE_ok {scope : Scope} : Blk X scope (fun Y => PE Y elt (bE X scope elt)) := fun s H C cl fp => ⟨fun pins s' σ H' Q I ⟨ρ, x, ρ', h1, hq⟩ => (h1 s H C cl fp).run pins s' σ H' Q I hq⟩
theorem lc_read {gv vs : List Nat} {scope : Scope} (hgv : ∀ j ∈ gv, j ∈ vs) (I : Nat → List D → List (Option OD) → Prop) (h0 : I 0 [] ρ1.ow)
    (hs : ∀ i d acc ow, ds[i]? = some d → I i acc ow → LcTurn X scope gv vs ρ1 tg elt ifs (I (i + 1)) d acc ow) (hz : ds.length ≤ sizeLine) {out : List D} {ow' : List (Option OD)} (hd : ∀ acc ow, I ds.length acc ow → acc = out ∧ ow = ow')
    (hlen : ∀ i acc ow, I i acc ow → acc.length ≤ i) {σ : L2.St} {H : Hp} {Q : VK} (hq : tE X.K ρ (.d (.lst out)) { ρ1 with ow := ow' } σ H Q) :
    tLc (tI X.K ρ ds ρ1) (bG X scope gv tg) (bT X scope ifs) (bE X scope elt) vs σ H Q := by
  obtain ⟨fr, S, ad, R, kk⟩ := hq
  refine ⟨fr, S, ad, R, fun S1 H1 ad1 J st1 R1 w L hL => ?_⟩
  have hM : L ∉ fr.M := R1.notM' hL
  have h0' : fr.H L = none := R1.fr0 hL
  have hSL : fr.S L = none := R1.grow.s.back (R1.grow.sh.back hL)
  refine lc_it (g := bG X scope gv tg) (tt := bT X scope ifs) (te := bE X scope elt) (vs := vs) (σ := σ) (D := L) (Qd := fun H' => Q (.ref L) H') w
    (fun i H' => ∃ acc accv ow S' ad', I i acc ow ∧ Rel X.K (frD fr L (.lst accv)) { ρ1 with sl := wpE ρ1.sl vs, ow := ow } (wipe σ vs) S' H' ad' ∧ RpAll X.K S' accv acc ∧ Step S1 ad1 S' ad') ?_ ?_ ?_ ?_
  · exact ⟨[], [], ρ1.ow, S1, ad1, h0, (R1.ext hL).wiped vs, .nil, .refl _ _⟩
  · rintro i H' _ ⟨acc, accv, ow, S', ad', _, R', _, st'⟩
    exact st'.s.trans R'.grow.sh
  · rintro i xv H' H2 hlt ⟨acc, accv, ow, S', ad', hI, R', ra, st'⟩ hy
    obtain ⟨S2, d, hd1, st2, R2, rp⟩ := R'.item st'.s hy
    obtain ⟨sl2, p, ow3, hG, hT, hE, hF⟩ := hs i d acc ow hd1 hI
    refine ⟨_, _, _, hG, _, S2, ad', R2, .d rp, fun σ3 S3 H3 ad3 st3 R3 hl3 hj3 => ⟨wipe_eq (hl3.trans (wipe_length _ _)) hj3 hgv, _, _, _, hT, _, S3, ad3, R3, fun S4 H4 ad4 st4 R4 => ?_⟩⟩
    have back : ∀ {S5 : Hp} {H5 : Hp} {ad5 : List Addr} {ow5 : List (Option OD)}, Rel X.K (frD fr L (.lst accv)) { ρ1 with sl := sl2, ow := ow5 } σ3 S5 H5 ad5 → Step S2 ad' S5 ad5 → Rel X.K (frD fr L (.lst accv)) { ρ1 with sl := wpE ρ1.sl vs, ow := ow5 } (wipe σ vs) S5 H5 ad5 := by
      intro S5 H5 ad5 ow5 R5 st5
      refine ⟨R5.grow, fun j x e => ?_, R5.own, R5.mm, R5.nd, R2.len, R5.al, R5.ml, R5.lv⟩
      obtain ⟨v, e1, e2⟩ := R2.slots j x e
      exact ⟨v, e1, e2.mono st5⟩
    cases p with
    | false => exact iteF ⟨acc, accv, ow3, S4, ad4, hF rfl, back R4 (st3.trans st4), ra.mono ((st2.trans st3).trans st4).s, ((st'.trans st2).trans st3).trans st4⟩
    | true =>
      obtain ⟨e, ow4, hE1, hI4⟩ := hE rfl
      refine iteT ⟨_, _, _, hE1, _, S4, ad4, R4, fun S5 H5 ad5 v5 st5 R5 rv5 => ?_⟩
      obtain ⟨hp5, _⟩ := R5.extAt hM hSL
      refine ⟨accv, hp5, ?_, acc ++ [e], accv ++ [v5], ow4, S5, ad5, hI4, (back R5 ((st3.trans st4).trans st5)).extSet hM hSL, ?_, (((st'.trans st2).trans st3).trans st4).trans st5⟩
      · rw [ra.length]
        have := hlen i acc ow hI
        omega
      · exact (ra.mono (((st2.trans st3).trans st4).trans st5).s).append (.cons rv5.dd .nil)
  · rintro H' ⟨acc, accv, ow, S', ad', hI, R', ra, st'⟩
    obtain ⟨rfl, rfl⟩ := hd acc ow hI
    obtain ⟨R2, st2⟩ := R'.extTake hM hSL h0'
    refine kk _ H' ad' _ ((st1.trans st').trans st2) ⟨R2.grow, fun j x e => ?_, R2.own, R2.mm, R2.nd, R1.len, R2.al, R2.ml, R2.lv⟩ (.d (.lst (SqL.of upd_same) (ra.mono st2.s)))
    obtain ⟨v, e1, e2⟩ := R1.slots j x e
    exact ⟨v, e1, e2.mono (st'.trans st2)⟩
/-- [elt for tg in iter if ..] -/
theorem ed_lcG {gv vs : List Nat} {scope : Scope} {own : List (Str × Nat)} (hi : ItD X ρ tg iter ds ρ1) (I : Nat → List D → List (Option OD) → Prop) (h0 : I 0 [] ρ1.ow)
    (hs : ∀ i d acc ow, ds[i]? = some d → I i acc ow → LcTurn X scope gv (own.map (·.2)) ρ1 tg elt ifs (I (i + 1)) d acc ow) (hz : ds.length ≤ sizeLine) {out : List D} {ow' : List (Option OD)} (hd : ∀ acc ow, I ds.length acc ow → acc = out ∧ ow = ow')
    (hlen : ∀ i acc ow, I i acc ow → acc.length ≤ i) (hgv : ∀ j ∈ gv, j ∈ own.map (·.2)) (ok : BlkOk X.N X.env.scope scope own) (hN : X.N.Nodup) (hc : X.calm = true) (hfs : ∀ x, foldedSetIterable iter X.env x = pure x) :
    ED X ρ (.ListComp elt [⟨tg, iter, ifs, 0⟩] scope pos) (.d (.lst out)) { ρ1 with ow := ow' } :=
  ed_of (pe_lc hc hN hi ok bG_ok bT_ok bE_ok hfs) fun σ H Q hq => lc_read hgv I h0 hs hz hd hlen hq
/-- name = [elt for tg in iter if ..] -/
theorem sds_lcG (i : Nat) {n : Str} {pos' spos : Pos} {gv vs : List Nat} {scope : Scope} {own : List (Str × Nat)} (hi : ItD X ρ tg iter ds ρ1) (I : Nat → List D → List (Option OD) → Prop) (h0 : I 0 [] ρ1.ow)
    (hs : ∀ i d acc ow, ds[i]? = some d → I i acc ow → LcTurn X scope gv (own.map (·.2)) ρ1 tg elt ifs (I (i + 1)) d acc ow) (hz : ds.length ≤ sizeLine) {out : List D} {ow' : List (Option OD)} (hd : ∀ acc ow, I ds.length acc ow → acc = out ∧ ow = ow')
    (hlen : ∀ i acc ow, I i acc ow → acc.length ≤ i) (h : SDs X (Env.put { ρ1 with ow := ow' } i (.d (.lst out))) r k) (hgv : ∀ j ∈ gv, j ∈ own.map (·.2)) (ok : BlkOk X.N X.env.scope scope own) (hN : X.N.Nodup) (hc : X.calm = true)
    (hi' : X.N[i]? = some n) (hyl : X.env.scope.names.lookup n = some .local) (hsw : swapsWith (.ListComp elt [⟨tg, iter, ifs, 0⟩] scope pos) (some (.Name n pos')) spos.line X.env = pure true) (hfs : ∀ x, foldedSetIterable iter X.env x = pure x) :
    SDs X ρ (.Assign [.Name n pos'] (.ListComp elt [⟨tg, iter, ifs, 0⟩] scope pos) spos :: r) k :=
  sds_cons (sd_of (ps_setLc hc hN hi' hyl hsw hi ok bG_ok bT_ok bE_ok hfs) fun Dn σ H ⟨fr, S, ad, R, kk⟩ => lc_read hgv I h0 hs hz hd hlen ⟨fr, S, ad, R, fun S1 H1 ad1 v st R1 r1 => kk.nx _ _ S1 H1 ad1 h (R1.setSl r1)⟩)
end
end DL

namespace DL
open PySem PySem.Spec PyProof.Rows L2

/-! ### what a def promises: arguments (.loc i: the i-th lent object), what the lent objects hold, the result, what they hold behind -/
abbrev FSpec := List VD → List OD → D → List OD → Prop
def OD.free : OD → Prop
  | .ins _ _ xs => ∃ ds, AllD xs ds
  | _ => True
theorem OR.free {K : PySem.W.Frag} {S : Hp} {ad ad' : List Addr} {ho : HO} {o : OD} (hf : o.free) (h : OR K S ad ho o) : OR K S ad' ho o := by
  cases ho <;> cases o <;> first | exact h.elim | exact h | skip
  obtain ⟨h0, vs, h1, h2, h3⟩ := h
  obtain ⟨ds, ha⟩ := hf
  refine ⟨h0, vs, h1, h2, ?_⟩
  clear h1 h2
  induction ha generalizing vs with
  | nil => cases h3; exact .nil
  | cons _ ih =>
    cases h3 with
    | cons r t => exact .cons (.d r.dd) (ih _ t)
structure OwnA (K : PySem.W.Frag) (S H : Hp) (M : List Addr) (os : List OD) : Prop where
  len : M.length = os.length
  at_ : ∀ (n : Nat) o, os[n]? = some o → ∃ l ho, M[n]? = some l ∧ S l = none ∧ H l = some ho ∧ OR K S [] ho o
def spF (K : PySem.W.Frag) (R : FSpec) : Sp := fun vs H Q _ => ∃ S M xs os rr os', Ex S H ∧ RvAll K S M vs xs ∧ OwnA K S H M os ∧ M.Nodup ∧ R xs os rr os' ∧ (∀ o ∈ os, o.free) ∧
  ∀ S' H' v, Grow M S H S' H' → Rp K S' v rr → OwnA K S' H' M os' → Q v H'
/-- the caller's n-th object is lent as the i-th -/
inductive Tr (ns : List Nat) : VD → VD → Prop
  | d (x : D) : Tr ns (.d x) (.d x)
  | loc {n i : Nat} : ns[i]? = some n → Tr ns (.loc n) (.loc i)
inductive TrAll (ns : List Nat) : List VD → List VD → Prop
  | nil : TrAll ns [] []
  | cons {x y : VD} {xs ys : List VD} : Tr ns x y → TrAll ns xs ys → TrAll ns (x :: xs) (y :: ys)
def setAll (ow : List (Option OD)) : List Nat → List OD → List (Option OD)
  | n :: ns, o :: os => (setAll ow ns os).set n (some o)
  | _, _ => ow
theorem setAll_length (ow : List (Option OD)) : ∀ ns os, (setAll ow ns os).length = ow.length
  | n :: ns, o :: os => by unfold setAll; rw [List.length_set, setAll_length ow ns os]
  | [], _ => rfl
  | _ :: _, [] => rfl
theorem setAll_in {ow : List (Option OD)} : ∀ {ns : List Nat} {os : List OD} {i n : Nat} {o : OD}, ns.Nodup → ns[i]? = some n → os[i]? = some o → n < ow.length → (setAll ow ns os)[n]? = some (some o)
  | [], _, _, _, _, _, h, _, _ => by simp at h
  | _ :: _, [], _, _, _, _, _, h, _ => by simp at h
  | m :: ns, u :: os, 0, n, o, nd, h1, h2, hl => by
    simp at h1 h2
    subst h1 h2
    unfold setAll
    exact List.getElem?_set_self (by rw [setAll_length]; exact hl)
  | m :: ns, u :: os, i + 1, n, o, nd, h1, h2, hl => by
    simp at h1 h2
    have ne : m ≠ n := fun z => (List.nodup_cons.mp nd).1 (z ▸ List.mem_of_getElem? h1)
    unfold setAll
    rw [List.getElem?_set_ne ne]
    exact setAll_in (List.nodup_cons.mp nd).2 h1 h2 hl
theorem setAll_out {ow : List (Option OD)} : ∀ {ns : List Nat} {os : List OD} {n : Nat}, n ∉ ns → (setAll ow ns os)[n]? = ow[n]?
  | [], _, _, _ => rfl
  | _ :: _, [], _, _ => rfl
  | m :: ns, u :: os, n, h => by
    unfold setAll
    simp only [List.mem_cons, not_or] at h
    rw [List.getElem?_set_ne (fun z => h.1 z.symm)]
    exact setAll_out h.2
/-- lent objects -/
structure Lend (ow : List (Option OD)) (ns : List Nat) (os : List OD) : Prop where
  len : ns.length = os.length
  nd : ns.Nodup
  at_ : ∀ (i n : Nat), ns[i]? = some n → ∃ o, ow[n]? = some (some o) ∧ os[i]? = some o ∧ o.free
theorem Lend.nil {ow : List (Option OD)} : Lend ow [] [] := ⟨rfl, by simp, fun i n h => by simp at h⟩
theorem Lend.one {ow : List (Option OD)} {n : Nat} {o : OD} (h : ow[n]? = some (some o)) (hf : o.free) : Lend ow [n] [o] := ⟨rfl, by simp, fun i m e => by
  cases i with
  | zero => simp at e; subst e; exact ⟨o, h, rfl, hf⟩
  | succ i => simp at e⟩
section
variable {K : PySem.W.Frag} {fr : Fr} {ρ : Env} {σ : L2.St} {S H : Hp} {ad : List Addr}
theorem trAll_ok {ns : List Nat} {M : List Addr} (hM : ∀ (i n : Nat), ns[i]? = some n → M[i]? = ad[n]?) : ∀ {vs : List V} {xs ys : List VD}, TrAll ns xs ys → RvAll K S ad vs xs → RvAll K S M vs ys
  | _, _, _, .nil, h => by cases h; exact .nil
  | _, _, _, .cons t ts, h => by
    cases h with
    | cons r rs =>
      refine .cons ?_ (trAll_ok hM ts rs)
      cases t with
      | d x => exact .d r.dd
      | loc e =>
        obtain ⟨l, e1, e2⟩ := r.dl
        subst e1
        exact .loc ((hM _ _ e).trans e2)
/-- the call's promise, from the caller's state -/
theorem Rel.call {R : FSpec} {ns : List Nat} {os os' : List OD} {xs ys : List VD} {vs : List V} {rr : D} {Q : VK} {E : XK} (A : Rel K fr ρ σ S H ad) (hv : RvAll K S ad vs xs) (ht : TrAll ns xs ys) (hl : Lend ρ.ow ns os) (hr : R ys os rr os') (hos : os'.length = os.length)
    (k : ∀ S' H' v, Step S ad S' ad → Rel K fr { ρ with ow := setAll ρ.ow ns os' } σ S' H' ad → Rp K S' v rr → Q v H') : spF K R vs H Q E := by
  let M : List Addr := ns.map fun n => (ad[n]?).getD 0
  have adAt : ∀ (i n : Nat), ns[i]? = some n → ∃ l, ad[n]? = some l ∧ M[i]? = some l := fun i n e => by
    obtain ⟨o, h1, _⟩ := hl.at_ i n e
    obtain ⟨l, ho, e1, _⟩ := A.own n o h1
    refine ⟨l, e1, ?_⟩
    show (ns.map fun n => (ad[n]?).getD 0)[i]? = some l
    rw [List.getElem?_map, e]
    simp [e1]
  have hM : ∀ (i n : Nat), ns[i]? = some n → M[i]? = ad[n]? := fun i n e => by
    obtain ⟨l, e1, e2⟩ := adAt i n e
    rw [e1, e2]
  have lenM : M.length = ns.length := by show (ns.map _).length = _; simp
  have ofM : ∀ a, a ∈ M → ∃ i n : Nat, ns[i]? = some n ∧ ad[n]? = some a := fun a ha => by
    obtain ⟨i, hi⟩ := List.getElem?_of_mem ha
    have hlt := (List.getElem?_eq_some_iff.mp hi).1
    rw [lenM] at hlt
    have e : ns[i]? = some ns[i] := by simp [hlt]
    refine ⟨i, ns[i], e, ?_⟩
    rw [← hM i _ e]; exact hi
  have ndM : M.Nodup := by
    refine List.pairwise_iff_getElem.mpr fun i j hi hj hij heq => ?_
    rw [lenM] at hi hj
    have ei : ns[i]? = some ns[i] := by simp [hi]
    have ej : ns[j]? = some ns[j] := by simp [hj]
    obtain ⟨l, a1, a2⟩ := adAt i _ ei
    obtain ⟨l', b1, b2⟩ := adAt j _ ej
    have a3 := (List.getElem?_eq_some_iff.mp a2).2
    have b3 := (List.getElem?_eq_some_iff.mp b2).2
    have hll : l = l' := by rw [← a3, ← b3]; exact heq
    subst hll
    have h2 := nodup_ixA A.nd a1 b1
    have := (List.getElem_inj hl.nd (h₀ := hi) (h₁ := hj)).mp h2
    omega
  refine ⟨S, M, ys, os, rr, os', A.grow.sh, trAll_ok hM ht hv, ⟨lenM.trans hl.len, fun i o e => ?_⟩, ndM, hr, fun o ho => ?_, fun S' H' v g rp oa => ?_⟩
  · have hlt := (List.getElem?_eq_some_iff.mp e).1
    rw [← hl.len] at hlt
    have en : ns[i]? = some ns[i] := by simp [hlt]
    obtain ⟨o', h1, h2, h3⟩ := hl.at_ i _ en
    rw [e] at h2; cases h2
    obtain ⟨l, ho, e1, e2, e3, e4, _⟩ := A.own _ o h1
    exact ⟨l, ho, (hM i _ en).trans e1, e2, e3, e4.free h3⟩
  · obtain ⟨i, hi⟩ := List.getElem?_of_mem ho
    have hlt := (List.getElem?_eq_some_iff.mp hi).1
    rw [← hl.len] at hlt
    obtain ⟨o', h1, h2, h3⟩ := hl.at_ i ns[i] (by simp [hlt])
    rw [hi] at h2; cases h2
    exact h3
  · have hst : Step S ad S' ad := ⟨g.s, [], by simp⟩
    have keepH : ∀ a o, H a = some o → a ∉ M → H' a = some o := g.h
    have live : ∀ a, H a ≠ none → H' a ≠ none := fun a ha => by
      by_cases hm : a ∈ M
      · obtain ⟨i, hi⟩ := List.getElem?_of_mem hm
        have hlt := (List.getElem?_eq_some_iff.mp hi).1
        rw [oa.len] at hlt
        obtain ⟨l, ho, e1, _, e3, _⟩ := oa.at_ i os'[i] (by simp [hlt])
        rw [hi] at e1; cases e1
        rw [e3]; simp
      · cases q : H a with
        | none => exact absurd q ha
        | some u => rw [keepH a u q hm]; simp
    refine k S' H' v hst ⟨⟨A.grow.s.trans g.s, g.sh, fun a o e hm => ?_, fun a h1 h2 => ?_⟩, fun i x e => ?_, fun n o e => ?_, A.mm, A.nd, A.len, by rw [A.al]; exact (setAll_length _ _ _).symm, fun n hn => ?_, fun l hl' => live l (A.lv l hl')⟩ rp
    · refine keepH a o (A.grow.h a o e hm) fun ha => ?_
      obtain ⟨i, n, e1, e2⟩ := ofM a ha
      obtain ⟨u, h1, _⟩ := hl.at_ i n e1
      by_cases hnm : ρ.m ≤ n
      · obtain ⟨l, ho, f1, f2, f3, f4, f5⟩ := A.own n u h1
        rw [e2] at f1; cases f1
        rw [f5 hnm] at e; cases e
      · exact hm (A.inM e2 (by omega))
    · exact g.n a (A.grow.n a h1 h2) (A.old h2)
    · obtain ⟨w, e1, e2⟩ := A.slots i x e
      exact ⟨w, e1, e2.mono hst⟩
    · by_cases hn : n ∈ ns
      · obtain ⟨i, hi⟩ := List.getElem?_of_mem hn
        have hlt := (List.getElem?_eq_some_iff.mp hi).1
        obtain ⟨u, h1, h2, h3⟩ := hl.at_ i n hi
        have hlt2 := (List.getElem?_eq_some_iff.mp h1).1
        have hio : i < os'.length := by rw [hos, ← hl.len]; exact hlt
        have e' := setAll_in (ow := ρ.ow) (os := os') hl.nd hi (show os'[i]? = some os'[i] by simp [hio]) hlt2
        have eo : (some (some o) : Option (Option OD)) = some (some os'[i]) := e.symm.trans e'
        cases eo
        obtain ⟨l, ho, f1, f2, f3, f4⟩ := oa.at_ i os'[i] (by simp [hio])
        obtain ⟨l0, ho0, g1, g2, g3, g4, g5⟩ := A.own n u h1
        rw [hM i n hi, g1] at f1; cases f1
        have f4' : OR K S' ad ho os'[i] := by
          cases ho <;> cases q : os'[i] <;> rw [q] at f4 <;> first | exact f4.elim | exact f4 | skip
          obtain ⟨h0, vs', h1', h2', h3'⟩ := f4
          refine ⟨h0, vs', h1', h2', ?_⟩
          clear h1' h2' q
          induction h3' with
          | nil => exact .nil
          | cons r t ih => 
            refine .cons ?_ ih
            cases r with
            | d r => exact .d r
            | loc z => simp at z
        exact ⟨_, ho, g1, f2, f3, f4', g5⟩
      · have e' : ρ.ow[n]? = some (some o) := by rw [← setAll_out hn]; exact e
        obtain ⟨l, ho, e1, e2, e3, e4, e5⟩ := A.own n o e'
        have hlm : l ∉ M := fun z => by
          obtain ⟨i, n', f1, f2⟩ := ofM l z
          have := nodup_ixA A.nd e1 f2
          subst this
          exact hn (List.mem_of_getElem? f1)
        exact ⟨l, ho, e1, g.n l e2 (by rw [e3]; simp), keepH l ho e3 hlm, e4.mono hst, e5⟩
    · obtain ⟨o, e⟩ := A.ml n hn
      by_cases hns : n ∈ ns
      · obtain ⟨i, hi⟩ := List.getElem?_of_mem hns
        have hlt := (List.getElem?_eq_some_iff.mp hi).1
        have hio : i < os'.length := by rw [hos, ← hl.len]; exact hlt
        exact ⟨_, setAll_in hl.nd hi (show os'[i]? = some os'[i] by simp [hio]) (List.getElem?_eq_some_iff.mp e).1⟩
      · exact ⟨o, by show (setAll ρ.ow ns os')[n]? = _; rw [setAll_out hns]; exact e⟩
/-- the entry's state -/
theorem Rel.start {N : List Str} {M : List Addr} {os : List OD} {vs : List V} {xs : List VD} (hS : Ex S H) (hv : RvAll K S M vs xs) (ho : OwnA K S H M os) (hM : M.Nodup) (hn : xs.length ≤ N.length) :
    Rel K ⟨M, S, H⟩ ⟨os.length, xs.map some ++ List.replicate (N.length - xs.length) none, os.map some⟩ (start N vs) S H M := by
  have hl := hv.length
  refine ⟨⟨.refl _, hS, fun a o e _ => e, fun a h _ => h⟩, fun i x e => ?_, fun n o e => ?_, ⟨ho.len, by show M.take os.length = M; rw [← ho.len, List.take_length]⟩, hM, ?_, by rw [ho.len]; simp, fun n hn => ?_, fun l hl' => ?_⟩
  · have e : (xs.map some ++ List.replicate (N.length - xs.length) none)[i]? = some (some x) := e
    by_cases hi : i < xs.length
    · rw [List.getElem?_append_left (by simpa using hi), List.getElem?_map] at e
      have ex : xs[i]? = some x := by
        cases q : xs[i]? with
        | none => rw [q] at e; cases e
        | some y => rw [q] at e; simpa using e
      obtain ⟨v, e1, e2⟩ := hv.get ex
      refine ⟨v, ?_, e2⟩
      show (L2.start N vs)[i]? = _
      unfold L2.start
      rw [List.getElem?_append_left (by simpa [hl] using hi), List.getElem?_map, e1]; rfl
    · rw [List.getElem?_append_right (by simpa using hi)] at e
      have := List.mem_of_getElem? e
      have := List.eq_of_mem_replicate this
      cases this
  · have e : (os.map some)[n]? = some (some o) := e
    rw [List.getElem?_map] at e
    have eo : os[n]? = some o := by
      cases q : os[n]? with
      | none => rw [q] at e; cases e
      | some y => rw [q] at e; simpa using e
    obtain ⟨l, h', e1, e2, e3, e4⟩ := ho.at_ n o eo
    refine ⟨l, h', e1, e2, e3, ?_, fun hm => ?_⟩
    · exact OR.mono (ad := []) ⟨.refl _, M, by simp⟩ e4
    · have := (List.getElem?_eq_some_iff.mp eo).1
      have hm : os.length ≤ n := hm
      omega
  · show (xs.map some ++ List.replicate (N.length - xs.length) none).length = (L2.start N vs).length
    unfold L2.start
    simp [hl]
  · have hn : n < os.length := hn
    exact ⟨os[n], by show (os.map some)[n]? = _; rw [List.getElem?_map]; simp [hn]⟩
  · obtain ⟨i, hi⟩ := List.getElem?_of_mem hl'
    have hlt := (List.getElem?_eq_some_iff.mp hi).1
    rw [ho.len] at hlt
    obtain ⟨l', h', e1, e2, e3, e4⟩ := ho.at_ i os[i] (by simp [hlt])
    rw [hi] at e1; cases e1
    rw [e3]; simp
/-- the end's state -/
theorem Rel.finish {M : List Addr} {S0 H0 : Hp} {os' : List OD} (A : Rel K ⟨M, S0, H0⟩ ρ σ S H ad) (hm' : M.length = os'.length) (h : ρ.ow.take os'.length = os'.map some) (hf : ∀ o ∈ os', o.free) : OwnA K S H M os' := by
  have ml : M.length = ρ.m := A.mm.1
  have hm : ρ.m = os'.length := ml.symm.trans hm'
  refine ⟨by rw [ml, hm], fun n o e => ?_⟩
  have hlt := (List.getElem?_eq_some_iff.mp e).1
  have e' : ρ.ow[n]? = some (some o) := by
    have : (ρ.ow.take os'.length)[n]? = (os'.map some)[n]? := by rw [h]
    rw [List.getElem?_take_of_lt hlt, List.getElem?_map, e] at this
    exact this
  obtain ⟨l, ho, e1, e2, e3, e4, _⟩ := A.own n o e'
  refine ⟨l, ho, ?_, e2, e3, e4.free (hf o (List.mem_of_getElem? e))⟩
  have hM : ad.take ρ.m = M := A.mm.2
  rw [← hM, List.getElem?_take_of_lt (by rw [hm]; exact hlt)]
  exact e1
end
/-- the state in which a def's body starts -/
def env0 (N : List Str) (xs : List VD) (os : List OD) : Env := ⟨os.length, xs.map some ++ List.replicate (N.length - xs.length) none, os.map some⟩
/-- what its body must reach -/
def kn0 (n : Nat) (r : D) (os' : List OD) : Kn := { nx := fun ρ => r = .non ∧ ρ.ow.take n = os'.map some, rt := fun d ow => d = r ∧ ow.take n = os'.map some }
section
variable {P : Program} {w : World} {K : PySem.W.Frag} {mg : Str → Option Value} {base : Heap} {x qual : Str} {params : Arguments} {body : List Stmt} {scope : Scope} {f : Addr} {fd : FuncData} {N ps : List Str} {j : Nat} {R : FSpec}
/-- the reading of a body -/
theorem body_read {N : List Str} {os os' : List OD} {vs : List V} {xs : List VD} {rr : D} {H : Hp} {Q : VK} {S : Hp} {M : List Addr} (hS : Ex S H) (hv : RvAll K S M vs xs) (ho : OwnA K S H M os) (hM : M.Nodup) (hn : xs.length ≤ N.length) (hf : ∀ o ∈ os', o.free) (hl : os'.length = os.length)
    (k : ∀ S' H' v, Grow M S H S' H' → Rp K S' v rr → OwnA K S' H' M os' → Q v H') : tS K (env0 N xs os) (kn0 os.length rr os') { nx := fun _ H' => Q .non H', rt := Q } (start N vs) H := by
  refine ⟨⟨M, S, H⟩, S, M, Rel.start hS hv ho hM hn, fun ρ σ S' H' ad' hk A => ?_, fun d ρ σ S' H' ad' v hk A rp => ?_, fun ρ σ S' H' ad' hk A => hk.elim, fun ρ σ S' H' ad' hk A => hk.elim⟩
  · obtain ⟨e, h1⟩ := hk
    subst e
    exact k S' H' _ A.grow .non (A.finish (ho.len.trans hl.symm) (by rw [hl]; exact h1) hf)
  · obtain ⟨e, h1⟩ := hk
    subst e
    exact k S' H' v A.grow rp (A.finish (ho.len.trans hl.symm) (by rw [hl]; exact h1) hf)
/-- a def keeps its promise -/
theorem fn_D (F : FunD K x qual params body scope [] [] f fd) (sc : FnScope N ps scope) (hb : Binds K fd ps []) (hlen : ∀ xs os r os', R xs os r os' → xs.length = ps.length ∧ os'.length = os.length ∧ ∀ o ∈ os', o.free)
    (hbody : ∀ (cdv : Value) (A : Around) (outer : List PySem.Env) (s : Shared) (H : Hp) (E : XK), Room j (A.deeper (envOfC qual scope s.heap.objs.size f cdv)) → ∀ xs os r os', R xs os r os' → (∀ o ∈ os, o.free) →
      SDs (cxOf CX0 P w K mg base N qual scope f cdv A outer s H E).nox (env0 N xs os) body (kn0 os.length r os')) : FnR P w K mg base CX0 (j + 1) f (spF K R) := by
  have F1 : FnOk P w K mg base CX0 (j + 1) f fd ps (spF K R) := by
    refine F.ok sc (fun vs H Q E h => ?_) (fun cdv A outer s H vs Q E hr h => ?_)
    · obtain ⟨S, M, xs, os, rr, os', _, hv, _, _, h5, _⟩ := h
      rw [hv.length]; exact (hlen _ _ _ _ h5).1
    · obtain ⟨S, M, xs, os, rr, os', h1, hv, ho, hM, h5, hf, k⟩ := h
      obtain ⟨l1, l2, l3⟩ := hlen _ _ _ _ h5
      refine ⟨_, (hbody cdv A outer s H E hr xs os rr os' h5 hf).nox, body_read h1 hv ho hM ?_ l3 l2 k⟩
      have := congrArg List.length sc.pre
      rw [List.length_take] at this
      omega
  have F2 := F1.raw hb (dvs := []) .nil
  refine F2.imp fun vs H Q E h => ?_
  rw [List.append_nil]; exact h
end
end DL

namespace DL
open PySem PySem.Spec PyProof.Rows L2

/-! ### calls of defs -/
theorem pe_callR {X : Cx} {k : Nat} {f : Addr} {x : Str} {sp : Sp} {E : XK} {e : Expr} {es : List Expr} {t : TA} {p pos : Pos} (F : FnR X.prog X.w X.K X.mg X.base CX0 k f sp) (hr : Room k X.A) (hg : Gl X x) (hm : X.mg x = some (.ref f)) (hk : PySem.W.keepIn X.K (.ref f) = true)
    (ha : PA X (e :: es) t) (hdb : (x == ("__debug__" : Str)) = false) (he : starEach (e :: es) X.env = (false, eval e X.env) :: starEach es X.env) (hpl : (backTo pos (starEach es X.env)).any (·.1) = false) :
    PE X (.Call (.Name x p) (e :: es) [] pos) (fun σ H Q => t σ H fun vs H1 => sp vs H1 Q E) := by
  refine ⟨fun pins s σ H Q I h => ?_⟩
  refine wpAny_Call_Name_kw (ld_glob I hg hm ?_ hdb)
  refine PySem.W.callWith_K (h₀ := X.base) I.ok.mod.kin hk (thn (ha.run pos pins s σ H _ I h) fun us s1 ⟨vs, H1, I1, r, q⟩ => ⟨I1.kIn, ?_⟩) he hpl
  exact wpAny_call (run_fnR (E := E) F hr (fun _ _ _ _ _ _ _ h => h.elim) I1 r q)
/-- a def of the module that may be called here -/
structure CGs (P : Program) (w : World) (K : PySem.W.Frag) (mg : Str → Option Value) (base : Heap) (A : Around) (x : Str) (R : FSpec) : Prop where
  ex : ∃ f j, FnR P w K mg base CX0 j f (spF K R) ∧ Room j A ∧ mg x = some (.ref f) ∧ PySem.W.keepIn K (.ref f) = true
abbrev CG (X : Cx) : Str → FSpec → Prop := CGs X.prog X.w X.K X.mg X.base X.A
/-- a method of the class at C -/
structure CMs (P : Program) (w : World) (K : PySem.W.Frag) (mg : Str → Option Value) (base : Heap) (A : Around) (C : Addr) (m : Str) (R : FSpec) : Prop where
  cl : Cls K C
  ex : ∃ f j, FnR P w K mg base CX0 j f (spF K R) ∧ Room j A ∧ Meth K C m f
abbrev CM (X : Cx) : Addr → Str → FSpec → Prop := CMs X.prog X.w X.K X.mg X.base X.A
section
variable {X : Cx} {ρ ρ' ρ1 ρ2 ρ3 : Env} {e a b c tg iter elt : Expr} {es rest ifs : List Expr} {x y z : VD} {xs ys : List VD} {pos pp apos : Pos} {p q : Bool} {st : Stmt} {r body orelse : List Stmt} {k : Kn} {ds : List D} {n m : Str} {R : FSpec}
theorem AllD.tr {ns : List Nat} : ∀ {xs : List VD} {ds : List D}, AllD xs ds → TrAll ns xs xs
  | _, _, .nil => .nil
  | _, _, .cons h => .cons (.d _) h.tr
theorem setAll_nil (ow : List (Option OD)) : setAll ow [] [] = ow := rfl
/-- f(e, ..): some of the arguments are lent objects -/
theorem ed_callL {ns : List Nat} {os os' : List OD} {rr : D} (C : CG X n R) (ha : AD X ρ (e :: es) xs ρ1) (ht : TrAll ns xs ys) (hl : Lend ρ1.ow ns os) (hR : R ys os rr os') (hos : os'.length = os.length) (hg : Gl X n) (hdb : (n == ("__debug__" : Str)) = false := by decide)
    (he : starEach (e :: es) X.env = (false, eval e X.env) :: starEach es X.env := by rfl) (hpl : (backTo pos (starEach es X.env)).any (·.1) = false := by rfl) :
    ED X ρ (.Call (.Name n pp) (e :: es) [] pos) (.d rr) { ρ1 with ow := setAll ρ1.ow ns os' } := by
  obtain ⟨f, j, F, hr, hm, hk⟩ := C.ex
  refine ed_of (pe_callR (E := E0) F hr hg hm hk ha hdb he hpl) fun σ H Q ⟨fr, S, ad, A, kk⟩ => ⟨fr, S, ad, A, fun S1 H1 ad1 vs st1 A1 r1 => ?_⟩
  exact A1.call r1 ht hl hR hos fun S' H' v st' A' rp => kk S' H' ad1 v (st1.trans st') A' (.d rp)
/-- f(e, ..) of data -/
theorem ed_call {rr : D} (C : CG X n R) (ha : AD X ρ (e :: es) xs ρ1) (hd : AllD xs ds) (hR : R xs [] rr []) (hg : Gl X n) (hdb : (n == ("__debug__" : Str)) = false := by decide)
    (he : starEach (e :: es) X.env = (false, eval e X.env) :: starEach es X.env := by rfl) (hpl : (backTo pos (starEach es X.env)).any (·.1) = false := by rfl) :
    ED X ρ (.Call (.Name n pp) (e :: es) [] pos) (.d rr) ρ1 := ed_callL (ns := []) (os' := []) C ha hd.tr Lend.nil hR rfl hg hdb he hpl
/-! ### fields -/
theorem lookup_zip {α : Type} : ∀ {ns : List Str} {vs : List α} {i : Nat} {f : Str} {v : α}, ns.Nodup → ns[i]? = some f → vs[i]? = some v → (ns.zip vs).lookup f = some v
  | [], _, _, _, _, _, h, _ => by simp at h
  | _ :: _, [], _, _, _, _, _, h => by simp at h
  | n :: ns, w :: vs, 0, f, v, _, h1, h2 => by
    simp at h1 h2
    subst h1 h2
    simp [List.lookup]
  | n :: ns, w :: vs, i + 1, f, v, nd, h1, h2 => by
    simp at h1 h2
    have ne : f ≠ n := fun z => (List.nodup_cons.mp nd).1 (z ▸ List.mem_of_getElem? h1)
    have e : (f == n) = false := by simpa using ne
    show (match f == n with | true => some w | false => (ns.zip vs).lookup f) = some v
    rw [e]
    exact lookup_zip (List.nodup_cons.mp nd).2 h1 h2
theorem lookup_zip_none {α : Type} : ∀ {ns : List Str} {vs : List α} {f : Str}, f ∉ ns → (ns.zip vs).lookup f = none
  | [], _, _, _ => by simp
  | _ :: _, [], _, _ => by simp
  | n :: ns, w :: vs, f, h => by
    simp only [List.mem_cons, not_or] at h
    have e : (f == n) = false := by simpa using h.1
    show (match f == n with | true => some w | false => (ns.zip vs).lookup f) = none
    rw [e]
    exact lookup_zip_none h.2
/-- e.f of an instance that is data -/
theorem ed_fld {C : Addr} {ns : List Str} {d : D} {f : Str} (i : Nat) (he : ED X ρ e (.d (.ins C ns ds)) ρ1) (c : Cls X.K C) (na : NoAttr X.K C f) (h1 : ns[i]? = some f) (h2 : ds[i]? = some d) (nd : ns.Nodup := by decide) (hb : attributeBase e f X.env (eval e X.env) = eval e X.env := by rfl) :
    ED X ρ (.Attribute e f pos) (.d d) ρ1 := ed_of (pe_fld he hb) fun σ H Q ⟨fr, S, ad, A, kk⟩ => ⟨fr, S, ad, A, fun S1 H1 ad1 v st1 A1 r1 => by
  obtain ⟨a, dx, vs, e1, e2, e3, e4⟩ := r1.dd.ins_inv
  obtain ⟨w, e5, e6⟩ := e4.getD h2
  exact ⟨a, C, dx, _, w, e1, A1.grow.sh _ _ e2, c, na, lookup_zip nd h1 e5, kk S1 H1 ad1 w st1 A1 (.d e6)⟩⟩
/-- e.f of an instance of ours -/
theorem ed_fldO {C : Addr} {ns : List Str} {f : Str} {o : Nat} (i : Nat) (he : ED X ρ e (.loc o) ρ1) (ho : ρ1.ow[o]? = some (some (.ins C ns xs))) (c : Cls X.K C) (na : NoAttr X.K C f) (h1 : ns[i]? = some f) (h2 : xs[i]? = some x) (nd : ns.Nodup := by decide) (hb : attributeBase e f X.env (eval e X.env) = eval e X.env := by rfl) :
    ED X ρ (.Attribute e f pos) x ρ1 := ed_of (pe_fld he hb) fun σ H Q ⟨fr, S, ad, A, kk⟩ => ⟨fr, S, ad, A, fun S1 H1 ad1 v st1 A1 r1 => by
  obtain ⟨l, hu, e1, e2, e3, e4, _⟩ := A1.own o _ ho
  obtain ⟨l', f1, f2⟩ := r1.dl
  rw [e1] at f2; cases f2
  cases hu <;> first | exact e4.elim | skip
  obtain ⟨g0, vs, g1, g2, g3⟩ := e4
  subst g0 g1
  obtain ⟨w, e5, e6⟩ := g3.get h2
  exact ⟨l, _, _, _, w, f1, e3, c, na, lookup_zip nd h1 e5, kk S1 H1 ad1 w st1 A1 e6⟩⟩
/-- o.f = e: a new field, the last -/
theorem putF_new : ∀ {ns : List Str} {vs : List V} {f : Str} {v : V}, ns.length = vs.length → f ∉ ns → putF f v (ns.zip vs) = (ns ++ [f]).zip (vs ++ [v])
  | [], [], _, _, _, _ => rfl
  | n :: ns, w :: vs, f, v, hl, h => by
    simp only [List.mem_cons, not_or] at h
    show (if n = f then (n, v) :: ns.zip vs else (n, w) :: putF f v (ns.zip vs)) = _
    rw [if_neg (fun z => h.1 z.symm), putF_new (by simpa using hl) h.2]
    rfl
theorem putF_old : ∀ {ns : List Str} {vs : List V} {f : Str} {v : V} {i : Nat}, ns.length = vs.length → ns.Nodup → ns[i]? = some f → putF f v (ns.zip vs) = ns.zip (vs.set i v)
  | [], _, _, _, _, _, _, h => by simp at h
  | n :: ns, [], _, _, _, hl, _, _ => by simp at hl
  | n :: ns, w :: vs, f, v, 0, hl, nd, h => by
    simp at h
    subst h
    show (if n = n then (n, v) :: ns.zip vs else (n, w) :: putF n v (ns.zip vs)) = _
    rw [if_pos rfl]; rfl
  | n :: ns, w :: vs, f, v, i + 1, hl, nd, h => by
    simp at h
    have ne : n ≠ f := fun z => (List.nodup_cons.mp nd).1 (z ▸ List.mem_of_getElem? h)
    show (if n = f then (n, v) :: ns.zip vs else (n, w) :: putF f v (ns.zip vs)) = _
    rw [if_neg ne, putF_old (by simpa using hl) (List.nodup_cons.mp nd).2 h]
    rfl
theorem RvAll.append {K : PySem.W.Frag} {S : Hp} {ad : List Addr} : ∀ {vs ws : List V} {xs ys : List VD}, RvAll K S ad vs xs → RvAll K S ad ws ys → RvAll K S ad (vs ++ ws) (xs ++ ys)
  | _, _, _, _, .nil, h => h
  | _, _, _, _, .cons a b, h => .cons a (RvAll.append b h)
theorem RvAll.set {K : PySem.W.Frag} {S : Hp} {ad : List Addr} : ∀ {vs : List V} {xs : List VD} (i : Nat) {v : V} {x : VD}, RvAll K S ad vs xs → Rv K S ad v x → RvAll K S ad (vs.set i v) (xs.set i x)
  | _, _, _, _, _, .nil, _ => .nil
  | _, _, 0, _, _, .cons _ b, h => .cons h b
  | _, _, i + 1, _, _, .cons a b, h => .cons a (RvAll.set i b h)
theorem sds_fldN {C : Addr} {ns : List Str} {f : Str} {o : Nat} {pos' : Pos} (hv : ED X ρ e x ρ1) (ho : ED X ρ1 a (.loc o) ρ2) (hw : ρ2.ow[o]? = some (some (.ins C ns xs))) (h : SDs X { ρ2 with ow := ρ2.ow.set o (some (.ins C (ns ++ [f]) (xs ++ [x]))) } r k)
    (c : Cls X.K C) (na : NoAttr X.K C f) (hf : f ∉ ns) (hl : ns.length < 1000) (hs : swapsWith e (some (.Attribute a f pos')) pos.line X.env = pure false) : SDs X ρ (.Assign [.Attribute a f pos'] e pos :: r) k :=
  sds_cons (sd_of (ps_fld ho hv hs) fun Dn σ H ⟨fr, S, ad, A, kk⟩ => ⟨fr, S, ad, A, fun S1 H1 ad1 v st1 A1 r1 => ⟨fr, S1, ad1, A1, fun S2 H2 ad2 v2 st2 A2 r2 => by
    obtain ⟨l, hu, e1, e2, e3, e4, _⟩ := A2.own o _ hw
    obtain ⟨l', f1, f2⟩ := r2.dl
    rw [e1] at f2; cases f2
    cases hu <;> first | exact e4.elim | skip
    obtain ⟨g0, vs, g1, g2, g3⟩ := e4
    subst g0 g1
    refine ⟨l, _, _, _, f1, e3, c, na, by rw [List.length_zip, ← g2]; omega, kk.nx _ σ S2 _ ad2 h (A2.setO hw e1 ?_)⟩
    exact ⟨rfl, vs ++ [v], putF_new g2 hf, by simp [g2], g3.append (.cons (r1.mono st2) .nil)⟩⟩⟩)
theorem sds_fldS {C : Addr} {ns : List Str} {f : Str} {o : Nat} {pos' : Pos} (i : Nat) (hv : ED X ρ e x ρ1) (ho : ED X ρ1 a (.loc o) ρ2) (hw : ρ2.ow[o]? = some (some (.ins C ns xs))) (h : SDs X { ρ2 with ow := ρ2.ow.set o (some (.ins C ns (xs.set i x))) } r k)
    (c : Cls X.K C) (na : NoAttr X.K C f) (hf : ns[i]? = some f) (nd : ns.Nodup) (hl : ns.length < 1000) (hs : swapsWith e (some (.Attribute a f pos')) pos.line X.env = pure false) : SDs X ρ (.Assign [.Attribute a f pos'] e pos :: r) k :=
  sds_cons (sd_of (ps_fld ho hv hs) fun Dn σ H ⟨fr, S, ad, A, kk⟩ => ⟨fr, S, ad, A, fun S1 H1 ad1 v st1 A1 r1 => ⟨fr, S1, ad1, A1, fun S2 H2 ad2 v2 st2 A2 r2 => by
    obtain ⟨l, hu, e1, e2, e3, e4, _⟩ := A2.own o _ hw
    obtain ⟨l', f1, f2⟩ := r2.dl
    rw [e1] at f2; cases f2
    cases hu <;> first | exact e4.elim | skip
    obtain ⟨g0, vs, g1, g2, g3⟩ := e4
    subst g0 g1
    refine ⟨l, _, _, _, f1, e3, c, na, by rw [List.length_zip, ← g2]; omega, kk.nx _ σ S2 _ ad2 h (A2.setO hw e1 ?_)⟩
    exact ⟨rfl, vs.set i v, putF_old g2 nd hf, by simp [g2], g3.set i (r1.mono st2)⟩⟩⟩)
/-! ### subscripts -/
theorem atI_map {K : PySem.W.Frag} {S : Hp} {vs : List V} {i : Int} {d : D} (h : RpAll K S vs ds) (e : atI ds i = some d) : ∃ v, atI vs i = some v ∧ Rp K S v d := by
  unfold atI at e ⊢
  rw [h.length]
  cases q : ixN ds.length i with
  | none => rw [q] at e; cases e
  | some j =>
    rw [q] at e
    exact h.getD e
theorem ed_ixL {i : Int} {d : D} (ha : ED X ρ a (.d (.lst ds)) ρ1) (hb : ED X ρ1 b (.d (.int i)) ρ2) (h : atI ds i = some d) (hs : PlainIx b := by intro _ _; rfl) : ED X ρ (.Subscript a b pos) (.d d) ρ2 :=
  ed_of (pe_ix ix_list ha hb hs) fun σ H Q hk => two_ σ H Q _ hk fun fr S ad S1 H1 ad1 v1 v2 A st r1 r2 kk => by
    obtain ⟨p, vs, e1, e2, e3⟩ := r1.dd.lst_inv
    obtain ⟨v, e4, e5⟩ := atI_map e3 h
    exact ⟨p, vs, i, v, e1, r2.di, ex_l A.grow.sh e2, e4, kk S1 H1 ad1 v (.refl _ _) A (.d e5)⟩
theorem ed_ixT {i : Int} {d : D} (ha : ED X ρ a (.d (.tup ds)) ρ1) (hb : ED X ρ1 b (.d (.int i)) ρ2) (h : atI ds i = some d) (hs : PlainIx b := by intro _ _; rfl) : ED X ρ (.Subscript a b pos) (.d d) ρ2 :=
  ed_of (pe_ix ix_tup ha hb hs) fun σ H Q hk => two_ σ H Q _ hk fun fr S ad S1 H1 ad1 v1 v2 A st r1 r2 kk => by
    obtain ⟨p, vs, e1, e2, e3⟩ := r1.dd.tup_inv
    obtain ⟨v, e4, e5⟩ := atI_map e3 h
    exact ⟨p, vs, i, v, e1, r2.di, ex_t A.grow.sh e2, e4, kk S1 H1 ad1 v (.refl _ _) A (.d e5)⟩
/-- an item of a list of ours -/
theorem own_lst {K : PySem.W.Frag} {fr : Fr} {σ : L2.St} {S H : Hp} {ad : List Addr} (A : Rel K fr ρ σ S H ad) {o : Nat} (ho : ρ.ow[o]? = some (some (.lst ds))) {v : V} (hv : Rv K S ad v (.loc o)) : ∃ l vs, v = .ref l ∧ ad[o]? = some l ∧ H l = some (.lst vs) ∧ RpAll K S vs ds := by
  obtain ⟨l, hu, e1, e2, e3, e4, _⟩ := A.own o _ ho
  obtain ⟨l', f1, f2⟩ := hv.dl
  rw [e1] at f2; cases f2
  cases hu <;> first | exact e4.elim | skip
  exact ⟨l, _, f1, e1, e3, e4⟩
theorem ed_ixO {i : Int} {d : D} {o : Nat} (ha : ED X ρ a (.loc o) ρ1) (hb : ED X ρ1 b (.d (.int i)) ρ2) (ho : ρ2.ow[o]? = some (some (.lst ds))) (h : atI ds i = some d) (hs : PlainIx b := by intro _ _; rfl) : ED X ρ (.Subscript a b pos) (.d d) ρ2 :=
  ed_of (pe_ix ix_list ha hb hs) fun σ H Q hk => two_ σ H Q _ hk fun fr S ad S1 H1 ad1 v1 v2 A st r1 r2 kk => by
    obtain ⟨l, vs, e1, e2, e3, e4⟩ := own_lst A ho r1
    obtain ⟨v, e5, e6⟩ := atI_map e4 h
    exact ⟨l, vs, i, v, e1, r2.di, SqL.of e3, e5, kk S1 H1 ad1 v (.refl _ _) A (.d e6)⟩
/-- o[i] = e, a list of ours -/
theorem sds_setIx {i : Int} {j o : Nat} {d : D} {tpos : Pos} (hv : ED X ρ e (.d d) ρ1) (ho : ED X ρ1 a (.loc o) ρ2) (hi : ED X ρ2 b (.d (.int i)) ρ3) (hw : ρ3.ow[o]? = some (some (.lst ds))) (hj : ixN ds.length i = some j) (h : SDs X { ρ3 with ow := ρ3.ow.set o (some (.lst (ds.set j d))) } r k)
    (ha : ∀ v, assign (.Subscript a b tpos) X.env v = (do
      let ov ← holding [v] (eval a X.env)
      let iv ← holding [v, ov] (eval b X.env)
      standAt tpos
      holding [v, ov, iv] (setItem ov iv v)
      release [v, ov, iv] []) := by intro _; rfl)
    (hs : swapsWithSole [.Subscript a b tpos] e pos.line X.env = pure false := by rfl) (hsw : swappedStores [.Subscript a b tpos] e X.env = pure none := by rfl) (h1 : (assignEach [.Subscript a b tpos] X.env).map (·.2) = [assign (.Subscript a b tpos) X.env] := by rfl) :
    SDs X ρ (.Assign [.Subscript a b tpos] e pos :: r) k :=
  sds_cons (sd_of (ps_asg hv (pg_sub ho hi set_list ha) hs hsw h1) fun Dn σ H ⟨fr, S, ad, A, kk⟩ => ⟨fr, S, ad, A, fun S1 H1 ad1 v st1 A1 r1 => ⟨fr, S1, ad1, A1, fun S2 H2 ad2 v2 st2 A2 r2 => ⟨fr, S2, ad2, A2, fun S3 H3 ad3 v3 st3 A3 r3 => by
    obtain ⟨l, vs, e1, e2, e3, e4⟩ := own_lst A3 hw (r2.mono st3)
    refine ⟨l, vs, i, j, e1, r3.di, e3, by rw [e4.length]; exact hj, kk.nx _ σ S3 _ ad3 h (A3.setO hw e2 ?_)⟩
    exact e4.set j ((r1.mono (st2.trans st3)).dd)⟩⟩⟩)
/-- xs.append(e), a list of ours -/
theorem ed_append {d : D} {o : Nat} (ha : ED X ρ a (.loc o) ρ1) (hb : ED X ρ1 b (.d d) ρ2) (hw : ρ2.ow[o]? = some (some (.lst ds))) (hw1 : ∃ ds', ρ1.ow[o]? = some (some (.lst ds'))) (hz : ds.length < sizeLine) (hs : starEach [b] X.env = (false, eval b X.env) :: starEach [] X.env := by rfl) (hg : PE X (.Call (.Attribute a "append" apos) [b] [] pos) (tBM X.K "list" rAppend (tE X.K ρ (.loc o) ρ1) (tCons (tE X.K ρ1 (.d d) ρ2) tNil))) :
    ED X ρ (.Call (.Attribute a "append" apos) [b] [] pos) (.d .non) { ρ2 with ow := ρ2.ow.set o (some (.lst (ds ++ [d]))) } :=
  ed_of hg fun σ H Q ⟨fr, S, ad, A, kk⟩ => ⟨fr, S, ad, A, fun S1 H1 ad1 v1 st1 A1 r1 => by
    obtain ⟨ds', hw1⟩ := hw1
    obtain ⟨l, vs, e1, e2, e3, e4⟩ := own_lst A1 hw1 r1
    refine ⟨by rw [e1]; exact .inl ⟨rfl, _, SqL.of e3⟩, fr, S1, ad1, A1, fun S2 H2 ad2 v2 st2 A2 r2 => ?_⟩
    obtain ⟨l2, vs2, f1, f2, f3, f4⟩ := own_lst A2 hw (r1.mono st2)
    refine ⟨l2, vs2, v2, f1, rfl, f3, by rw [f4.length]; exact hz, kk S2 _ ad2 _ (st1.trans st2) (A2.setO hw f2 ?_) (.d .non)⟩
    exact f4.append (.cons r2.dd .nil)⟩
/-! ### built-ins -/
theorem rv1 {K : PySem.W.Frag} {S : Hp} {ad : List Addr} {vs : List V} {x : VD} (h : RvAll K S ad vs [x]) : ∃ v, vs = [v] ∧ Rv K S ad v x := by
  cases h with | cons r t => cases t; exact ⟨_, rfl, r⟩
theorem rv2 {K : PySem.W.Frag} {S : Hp} {ad : List Addr} {vs : List V} {x y : VD} (h : RvAll K S ad vs [x, y]) : ∃ v w, vs = [v, w] ∧ Rv K S ad v x ∧ Rv K S ad w y := by
  cases h with | cons r t => cases t with | cons r2 t => cases t; exact ⟨_, _, rfl, r, r2⟩
/-- a call of a built-in function by its values -/
def CBR (X : Cx) (f : Value) (ρ : Env) (xs : List VD) (x : VD) (ρ' : Env) : Prop := ∃ rr : List V → Hp → VK → Prop, CallR X f rr ∧
  ∀ fr σ S H ad vs Q, Rel X.K fr ρ σ S H ad → RvAll X.K S ad vs xs → (∀ S' H' ad' v, Step S ad S' ad' → Rel X.K fr ρ' σ S' H' ad' → Rv X.K S' ad' v x → Q v H') → rr vs H Q
theorem ed_blt {id : String} (hc : CBR X (.builtin id) ρ1 xs x ρ2) (ha : AD X ρ (e :: es) xs ρ1) (hm : X.mg n = none) (hv : bootBuiltins n = some (.builtin id)) (hg : Gl X n) (hn : n ≠ "__name__" := by decide) (hdb : (n == ("__debug__" : Str)) = false := by decide)
    (he : starEach (e :: es) X.env = (false, eval e X.env) :: starEach es X.env := by rfl) (hpl : (backTo pos (starEach es X.env)).any (·.1) = false := by rfl) : ED X ρ (.Call (.Name n pp) (e :: es) [] pos) x ρ2 := by
  obtain ⟨rr, h1, h2⟩ := hc
  exact ed_of (pe_callB h1 hg hm hv ha hn hdb he hpl) fun σ H Q ⟨fr, S, ad, A, kk⟩ => ⟨fr, S, ad, A, fun S1 H1 ad1 vs st1 A1 r1 => h2 fr σ S1 H1 ad1 vs Q A1 r1 fun S' H' ad' v st' => kk S' H' ad' v (st1.trans st')⟩
theorem ed_bty' {T : String} (hc : CBR X (.type T) ρ1 xs x ρ2) (ha : AD X ρ (e :: es) xs ρ1) (hm : X.mg n = none) (hv : bootBuiltins n = some (.type T)) (hg : Gl X n) (hn : n ≠ "__name__" := by decide) (hdb : (n == ("__debug__" : Str)) = false := by decide)
    (he : starEach (e :: es) X.env = (false, eval e X.env) :: starEach es X.env := by rfl) (hpl : (backTo pos (starEach es X.env)).any (·.1) = false := by rfl) : ED X ρ (.Call (.Name n pp) (e :: es) [] pos) x ρ2 := by
  obtain ⟨rr, h1, h2⟩ := hc
  exact ed_of (pe_callTy h1 hg hm hv ha hn hdb he hpl) fun σ H Q ⟨fr, S, ad, A, kk⟩ => ⟨fr, S, ad, A, fun S1 H1 ad1 vs st1 A1 r1 => h2 fr σ S1 H1 ad1 vs Q A1 r1 fun S' H' ad' v st' => kk S' H' ad' v (st1.trans st')⟩
theorem cb_lenL : CBR X (.builtin "len") ρ [.d (.lst ds)] (.d (.int ds.length)) ρ := ⟨_, call_len_seq, fun fr σ S H ad vs Q A r0 k => by
  obtain ⟨v, rfl, r⟩ := rv1 r0
  obtain ⟨p, ys, e1, e2, e3⟩ := r.dd.lst_inv
  refine ⟨p, ys, by rw [e1], .inl (ex_l A.grow.sh e2), ?_⟩
  rw [e3.length]; exact k S H ad _ (.refl _ _) A (.d (.int _))⟩
theorem cb_lenT : CBR X (.builtin "len") ρ [.d (.tup ds)] (.d (.int ds.length)) ρ := ⟨_, call_len_seq, fun fr σ S H ad vs Q A r0 k => by
  obtain ⟨v, rfl, r⟩ := rv1 r0
  obtain ⟨p, ys, e1, e2, e3⟩ := r.dd.tup_inv
  refine ⟨p, ys, by rw [e1], .inr (ex_t A.grow.sh e2), ?_⟩
  rw [e3.length]; exact k S H ad _ (.refl _ _) A (.d (.int _))⟩
theorem cb_lenO {o : Nat} (ho : ρ.ow[o]? = some (some (.lst ds))) : CBR X (.builtin "len") ρ [.loc o] (.d (.int ds.length)) ρ := ⟨_, call_len_seq, fun fr σ S H ad vs Q A r0 k => by
  obtain ⟨v, rfl, r⟩ := rv1 r0
  obtain ⟨l, ys, e1, e2, e3, e4⟩ := own_lst A ho r
  refine ⟨l, ys, by rw [e1], .inl (SqL.of e3), ?_⟩
  rw [e4.length]; exact k S H ad _ (.refl _ _) A (.d (.int _))⟩
theorem cb_max2 {i j : Int} (hc : X.calm = true) : CBR X (.builtin "max") ρ [.d (.int i), .d (.int j)] (.d (.int (max i j))) ρ := ⟨_, call_max2 hc, fun fr σ S H ad vs Q A r0 k => by
  obtain ⟨v, w, rfl, r1, r2⟩ := rv2 r0
  rw [r1.di, r2.di]
  refine ⟨i, j, rfl, ?_⟩
  have e : (if j > i then j else i) = max i j := by split <;> omega
  rw [e]; exact k S H ad _ (.refl _ _) A (.d (.int _))⟩
theorem cb_min2 {i j : Int} (hc : X.calm = true) : CBR X (.builtin "min") ρ [.d (.int i), .d (.int j)] (.d (.int (min i j))) ρ := ⟨_, call_min2 hc, fun fr σ S H ad vs Q A r0 k => by
  obtain ⟨v, w, rfl, r1, r2⟩ := rv2 r0
  rw [r1.di, r2.di]
  refine ⟨i, j, rfl, ?_⟩
  have e : (if j < i then j else i) = min i j := by split <;> omega
  rw [e]; exact k S H ad _ (.refl _ _) A (.d (.int _))⟩
theorem cb_intI {i : Int} : CBR X (.type "int") ρ [.d (.int i)] (.d (.int i)) ρ := ⟨_, call_int1, fun fr σ S H ad vs Q A r0 k => by
  obtain ⟨v, rfl, r⟩ := rv1 r0
  rw [r.di]
  exact .inl ⟨i, rfl, k S H ad _ (.refl _ _) A (.d (.int _))⟩⟩
theorem cb_intB {i : Bool} : CBR X (.type "int") ρ [.d (.bl i)] (.d (.int (if i then 1 else 0))) ρ := ⟨_, call_int1, fun fr σ S H ad vs Q A r0 k => by
  obtain ⟨v, rfl, r⟩ := rv1 r0
  rw [r.db]
  exact .inr ⟨i, rfl, k S H ad _ (.refl _ _) A (.d (.int _))⟩⟩
/-- tuple(list) -/
theorem cb_tupL (hz : ds.length ≤ sizeLine) : CBR X (.type "tuple") ρ [.d (.lst ds)] (.d (.tup ds)) ρ := ⟨_, call_tuple_of, fun fr σ S H ad vs Q A r0 k => by
  obtain ⟨v, rfl, r⟩ := rv1 r0
  obtain ⟨p, ys, e1, e2, e3⟩ := r.dd.lst_inv
  refine ⟨p, ys, by rw [e1], .inl ⟨ex_l A.grow.sh e2, fun l hl => ?_⟩⟩
  obtain ⟨A2, st2⟩ := A.newS (o := .tup ys) hl
  exact k _ _ ad _ st2 A2 (.d (.tup (SqT.of upd_same) (e3.mono st2.s)))⟩
/-- list(list or tuple), new, for good; or ours -/
theorem cb_lstL : CBR X (.type "list") ρ [.d (.lst ds)] (.d (.lst ds)) ρ := ⟨_, call_list_of, fun fr σ S H ad vs Q A r0 k => by
  obtain ⟨v, rfl, r⟩ := rv1 r0
  obtain ⟨p, ys, e1, e2, e3⟩ := r.dd.lst_inv
  refine ⟨p, ys, by rw [e1], .inl (ex_l A.grow.sh e2), fun l hl => ?_⟩
  obtain ⟨A2, st2⟩ := A.newS (o := .lst ys) hl
  exact k _ _ ad _ st2 A2 (.d (.lst (SqL.of upd_same) (e3.mono st2.s)))⟩
theorem cb_lstT : CBR X (.type "list") ρ [.d (.tup ds)] (.d (.lst ds)) ρ := ⟨_, call_list_of, fun fr σ S H ad vs Q A r0 k => by
  obtain ⟨v, rfl, r⟩ := rv1 r0
  obtain ⟨p, ys, e1, e2, e3⟩ := r.dd.tup_inv
  refine ⟨p, ys, by rw [e1], .inr (ex_t A.grow.sh e2), fun l hl => ?_⟩
  obtain ⟨A2, st2⟩ := A.newS (o := .lst ys) hl
  exact k _ _ ad _ st2 A2 (.d (.lst (SqL.of upd_same) (e3.mono st2.s)))⟩
theorem cb_lstTO : CBR X (.type "list") ρ [.d (.tup ds)] (.loc ρ.ow.length) { ρ with ow := ρ.ow ++ [some (.lst ds)] } := ⟨_, call_list_of, fun fr σ S H ad vs Q A r0 k => by
  obtain ⟨v, rfl, r⟩ := rv1 r0
  obtain ⟨p, ys, e1, e2, e3⟩ := r.dd.tup_inv
  refine ⟨p, ys, by rw [e1], .inr (ex_t A.grow.sh e2), fun l hl => ?_⟩
  obtain ⟨A2, st2, e⟩ := A.newO (p := l) (ho := .lst ys) (o := .lst ds) hl e3
  exact k _ _ _ _ st2 A2 (.loc e)⟩
/-! ### isinstance -/
def D.tyn : D → Option String
  | .non => some "NoneType" | .bl _ => some "bool" | .int _ => some "int" | .str _ => some "str" | .byt _ => some "bytes" | .lst _ => some "list" | .tup _ => some "tuple" | .dic _ _ => some "dict"
  | _ => none
theorem Rp.ty_ {K : PySem.W.Frag} {S H : Hp} {v : V} {d : D} {t : String} (h : Rp K S v d) (hx : Ex S H) (e : d.tyn = some t) : TyX K H v (.type t) := by
  cases h with
  | non => cases e; exact .base .non
  | bl b => cases e; exact .base (.bl b)
  | int i => cases e; exact .base (.int i)
  | str x => cases e; exact .base (.str x)
  | byt x => cases e; exact .byt x
  | lst q _ =>
    cases e
    rcases ex_l hx q with (q | ⟨o, q⟩) | ⟨o, its, n, q1, q2, _⟩
    · exact .base (.lst q)
    · exact .base (.frz q)
    · exact .kList q1 q2
  | tup q _ =>
    cases e
    rcases ex_t hx q with (q | ⟨o, q⟩) | ⟨o, its, n, q1, q2, _⟩
    · exact .base (.tup q)
    · exact .fTuple q
    · exact .kTuple q1 q2
  | ins _ _ _ => cases e
  | dic q _ _ => cases e; exact .base (.dK (hx _ _ q))
  | ref a => cases e
  | ty n => cases e
theorem cb_isi {d : D} {t T : String} {bb : Bool} (ht : d.tyn = some t) (hk : kitB t T = some bb) : CBR X (.builtin "isinstance") ρ [.d d, .d (.ty T)] (.d (.bl bb)) ρ := ⟨_, call_isi, fun fr σ S H ad vs Q A r0 k => by
  obtain ⟨v, w, rfl, r1, r2⟩ := rv2 r0
  have hw : w = .ty T := by cases r2.dd; rfl
  subst hw
  exact ⟨v, _, _, _, bb, rfl, .ty T, r1.dd.ty_ A.grow.sh ht, kit_ty hk, k S H ad _ (.refl _ _) A (.d (.bl _))⟩⟩
end
end DL

namespace DL
open PySem PySem.Spec PyProof.Rows L2
/-- the slot of a name -/
def slotOf : List Str → List (Option VD) → Str → Option VD
  | m :: N, s :: sl, n => bif m == n then s else slotOf N sl n
  | _, _, _ => none
theorem slotOf_ok : ∀ {N : List Str} {sl : List (Option VD)} {n : Str} {x : VD}, slotOf N sl n = some x → ∃ i : Nat, N[i]? = some n ∧ sl[i]? = some (some x)
  | [], _, _, _, h => by cases h
  | _ :: _, [], _, _, h => by cases h
  | m :: N, s :: sl, n, x, h => by
    unfold slotOf at h
    cases q : (m == n) with
    | true =>
      rw [q] at h
      have e : m = n := eq_of_beq q
      refine ⟨0, by simp [e], ?_⟩
      simpa using h
    | false =>
      rw [q] at h
      obtain ⟨i, h1, h2⟩ := slotOf_ok (N := N) (sl := sl) h
      exact ⟨i + 1, by simpa using h1, by simpa using h2⟩
/-- the place of a name -/
def ixOf : List Str → Str → Nat
  | m :: N, n => bif m == n then 0 else ixOf N n + 1
  | [], _ => 0
section
variable {X : Cx} {ρ ρ' ρ1 ρ2 ρ3 : Env} {e a b c tg iter elt : Expr} {es rest ifs : List Expr} {x y z : VD} {xs ys : List VD} {pos pp apos : Pos} {p q : Bool} {st : Stmt} {r body orelse : List Stmt} {k : Kn} {ds : List D} {n m : Str} {R : FSpec}
theorem ed_v (hs : slotOf X.N ρ.sl n = some x) (hv : Vis X.env.scope n) (hd : (n == ("__debug__" : Str)) = false) (hcd : (n == ("__classdict__" : Str)) = false) : ED X ρ (.Name n pos) x ρ := by
  obtain ⟨i, h1, h2⟩ := slotOf_ok hs
  exact ed_var i h2 h1 hv hd hcd
/-- a list or a tuple -/
def D.seq? : D → Option (List D)
  | .lst ds => some ds
  | .tup ds => some ds
  | _ => none
theorem Rp.seq {K : PySem.W.Frag} {S : Hp} {v : V} {d : D} (h : Rp K S v d) (e : d.seq? = some ds) : ∃ a vs, v = .ref a ∧ (SqL K S a vs ∨ SqT K S a vs) ∧ RpAll K S vs ds := by
  cases h with
  | lst q r => cases e; exact ⟨_, _, rfl, .inl q, r⟩
  | tup q r => cases e; exact ⟨_, _, rfl, .inr q, r⟩
  | _ => cases e
theorem ed_ix {i : Int} {d u : D} (ha : ED X ρ a (.d u) ρ1) (hb : ED X ρ1 b (.d (.int i)) ρ2) (hu : u.seq? = some ds) (h : atI ds i = some d) (hs : PlainIx b := by intro _ _; rfl) : ED X ρ (.Subscript a b pos) (.d d) ρ2 :=
  ed_of (pe_ix ix_seq ha hb hs) fun σ H Q hk => two_ σ H Q _ hk fun fr S ad S1 H1 ad1 v1 v2 A st r1 r2 kk => by
    obtain ⟨p, vs, e1, e2, e3⟩ := r1.dd.seq hu
    obtain ⟨v, e4, e5⟩ := atI_map e3 h
    rcases e2 with e2 | e2
    · exact .inl ⟨p, vs, i, v, e1, r2.di, ex_l A.grow.sh e2, e4, kk S1 H1 ad1 v (.refl _ _) A (.d e5)⟩
    · exact .inr (.inl ⟨p, vs, i, v, e1, r2.di, ex_t A.grow.sh e2, e4, kk S1 H1 ad1 v (.refl _ _) A (.d e5)⟩)
theorem cb_len {u : D} (hu : u.seq? = some ds) : CBR X (.builtin "len") ρ [.d u] (.d (.int ds.length)) ρ := ⟨_, call_len_seq, fun fr σ S H ad vs Q A r0 k => by
  obtain ⟨v, rfl, r⟩ := rv1 r0
  obtain ⟨p, ys, e1, e2, e3⟩ := r.dd.seq hu
  refine ⟨p, ys, by rw [e1], e2.imp (ex_l A.grow.sh) (ex_t A.grow.sh), ?_⟩
  rw [e3.length]; exact k S H ad _ (.refl _ _) A (.d (.int _))⟩
theorem cb_list {u : D} (hu : u.seq? = some ds) : CBR X (.type "list") ρ [.d u] (.d (.lst ds)) ρ := ⟨_, call_list_of, fun fr σ S H ad vs Q A r0 k => by
  obtain ⟨v, rfl, r⟩ := rv1 r0
  obtain ⟨p, ys, e1, e2, e3⟩ := r.dd.seq hu
  refine ⟨p, ys, by rw [e1], e2.imp (ex_l A.grow.sh) (ex_t A.grow.sh), fun l hl => ?_⟩
  obtain ⟨A2, st2⟩ := A.newS (o := .lst ys) hl
  exact k _ _ ad _ st2 A2 (.d (.lst (SqL.of upd_same) (e3.mono st2.s)))⟩
end
end DL

namespace DL
open PySem PySem.Spec PyProof.Rows L2
/-! ### enumerate(tuple) -/
set_option maxHeartbeats 2000000 in
theorem meets_enum1 {v : Value} {ob : Obj} {Hh : Heap → Prop} (B : Begins v ob Hh) :
    Meets (Builtin.«enumerate.__new__» ⟨[.type "enumerate", v], []⟩) (fun _ R s => Hh s.heap ∧
      R (.ok (.ret (.ref (s.heap.push ob).objs.size))) { s with heap := (s.heap.push ob).push { cls := .type "enumerate", data := .fields #[.none, .bool false, .ref s.heap.objs.size, rawInt 0, .none, .none] } }) :=
  .of_wp fun prog w A R s hyp => by
    obtain ⟨hp, g, dr, tk, os⟩ := s
    obtain ⟨hyp1, hyp⟩ := hyp
    have hs1 := sub_enumerate
    have qi : ∀ {A' : Around} {E : Value → Shared → Prop} {Q : Value → Shared → Prop}, Q (.ref hp.objs.size) ⟨hp.push ob, g, dr, tk, os⟩ → wpAny (model prog w) A' (pyIter v) Q E ⟨hp, g, dr, tk, os⟩ :=
      fun q => B.iter prog w _ _ ⟨hp, g, dr, tk, os⟩ _ hyp1 q
    wp_walk using qi
    refine wpAny_stack_any fun st => wpAny_pure ?_
    split
    · rename_i cc _ _ _ _ _
      cases (cc == Value.type "enumerate")
      · wp_walk using qi
        exact ⟨_, rfl, hyp⟩
      · wp_walk using qi
        exact ⟨_, rfl, hyp⟩
    · wp_walk using qi
      exact ⟨_, rfl, hyp⟩
theorem call_enum1 {prog : Program} {w : World} {A : Around} {E : Value → Shared → Prop} {s : Shared} {v : Value} {ob : Obj} {Hh : Heap → Prop} {Q : Value → Shared → Prop} (B : Begins v ob Hh) (h1 : Hh s.heap)
    (h : ∀ h', IsEnum h' (s.heap.objs.size + 1) s.heap.objs.size 0 .none → h'.get? s.heap.objs.size = some ob → h'.objs.size = s.heap.objs.size + 2 →
      (∀ b o, s.heap.get? b = some o → h'.get? b = some o) → Q (.ref (s.heap.objs.size + 1)) { s with heap := h' }) :
    wpAny (model prog w) A (call (.type "enumerate") [v]) Q E s := by
  refine callType_new F.called_enumerate (by decide) (F.typeCall_enumerate_1 _) (F.newCall_enumerate_1 _) (fun obj => F.args_object_init_2 obj _) F.entry_enumerate_new
    (meets_enum1 B) ⟨h1, ?_⟩
  have sz1 : (s.heap.push ob).objs.size = s.heap.objs.size + 1 := Heap.size_push ..
  show _ ∧ _
  rw [sz1]
  let eo : Obj := { cls := .type "enumerate", data := .fields #[.none, .bool false, .ref s.heap.objs.size, rawInt 0, .none, .none] }
  have he : IsEnum ((s.heap.push ob).push eo) (s.heap.objs.size + 1) s.heap.objs.size 0 .none := by
    have := Heap.get?_push_size (s.heap.push ob) (o := eo) rfl
    rw [sz1] at this
    exact this
  exact ⟨⟨_, he, rfl⟩, h _ he (Heap.get?_push_of_some _ (Heap.get?_push_size _ B.free)) (by rw [Heap.size_push, sz1]) fun b o x => Heap.get?_push_of_some _ (Heap.get?_push_of_some _ x)⟩
/-- the tuple at a, each item in a new pair -/
def IteT (K : PySem.W.Frag) (a : Addr) : It :=
  ⟨fun i H => ∃ (xs : List V) (x : V), SqT K H a xs ∧ xs[i]? = some x, fun i H v H' => ∃ T x, v = .ref T ∧ H T = none ∧ H' = upd H T (.tup [.int (i : Nat), x]) ∧ ∀ xs, SqT K H a xs → xs[i]? = some x, fun i H => ∃ xs : List V, SqT K H a xs ∧ xs.length = i⟩
theorem turn_enumT {P : Program} {w : World} {K : PySem.W.Frag} {elts : List Expr} {kk : Nat} {tpos : Pos} (a e it : Addr) :
    Turn P w K (.Tuple elts kk tpos) (IteT K a) [e, it] e (fun i h => (∃ old, IsEnum h e it ((i : Nat) : Int) old) ∧ h.IsTupleIter it a i ∧ e ≠ it ∧ a ≠ e ∧ a ≠ it) where
  mem := by simp
  obj := fun i h st b hb => by
    obtain ⟨⟨old, he⟩, ⟨o, ho, hc, hd⟩, _⟩ := st
    have e' : b = e ∨ b = it := by simpa using hb
    rcases e' with z | z
    · subst z; exact ⟨_, he, fun v q => nomatch q⟩
    · subst z; exact ⟨o, ho, fun v q => by rw [hd] at q; cases q⟩
  keep := fun i h h' st k => by
    obtain ⟨⟨old, he⟩, hi, hne⟩ := st
    exact ⟨⟨old, k e (by simp) _ he⟩, hi.at fun o q => k it (by simp) o q, hne⟩
  item := by
    intro X hP hw hK hc i pins s σ H E I hf st hg
    subst hP hw hK
    obtain ⟨⟨old, he⟩, hit, hne, hae, hai⟩ := st
    obtain ⟨xs, x, hq, hx⟩ := hg
    obtain ⟨its, rv, ht, hz⟩ := I.tuple hq
    obtain ⟨u, hu, ru⟩ := rv.get hx
    have lt1 : e < s.heap.objs.size := Heap.lt_size he
    have lt2 : it < s.heap.objs.size := by obtain ⟨_, q, _⟩ := hit; exact Heap.lt_size q
    have dr := Draws.tuple (prog := X.prog) (w := X.w) (A := X.A.in1) (I.ok.hd hc) it a hai its.toArray
    have hin : i < its.toArray.size := by
      have := (List.getElem?_eq_some_iff.mp hu).1
      simpa using this
    refine wpAny_pyNext_enum_itemD dr he ⟨hit, ht⟩ hin hne (by simp [hne, Ne.symm hae]) fun x' h' tk hx' ho st' hT hsz hk => ?_
    have ex : x' = u := by
      have h1 : its.toArray[i]? = some x' := hx'
      have h2 : its.toArray[i]? = some u := by simpa using hu
      rw [h1] at h2; exact Option.some.inj h2
    subst ex
    refine ⟨_, rfl, wpAny_letOwnedTupleGo_enum (s := { s with heap := h', toks := tk + 1 }) ho fun h'' he' sb => ?_⟩
    have hT2 : h''.get? s.heap.objs.size = some { cls := .type "tuple", data := .seq #[.int i tk, x'] } := (sb.2 _ (Nat.ne_of_gt lt1)).trans hT
    have newp : ObjOk X.prog X.w (upd H s.heap.objs.size (.tup [.int (i : Nat), x])) h'' s.heap.objs.size (.tup [.int (i : Nat), x]) :=
      ⟨by show 2 ≤ sizeLine; decide, [.int i tk, x'], .cons ⟨_, rfl⟩ (.cons ru .nil), ⟨_, hT2, rfl, _, rfl⟩⟩
    have I1 : Inv X pins σ (upd H s.heap.objs.size (.tup [.int (i : Nat), x])) { s with heap := h'', toks := tk + 1 } :=
      I.turnedNew (ch := [e, it]) (fun b ob hb q => (sb.2 b (fun z => hb (by simp [z]))).trans (hk b ob (fun z => hb (by simp [z])) (fun z => hb (by simp [z])) q)) hf (Nat.le_refl _) newp
    refine ⟨.ref s.heap.objs.size, _, I1, rfl, ⟨_, x, rfl, I.hok.fresh (Nat.le_refl _), rfl, fun ys hy => by rw [I.tuple_inj hy hq]; exact hx⟩, ⟨⟨x', ?_⟩, st'.1.at fun o q => (sb.2 it (Ne.symm hne)).trans q, hne, hae, hai⟩, fun b hb => ?_⟩
    · have e1 : ((i + 1 : Nat) : Int) = (i : Int) + 1 := by omega
      rw [e1]; exact he'
    · have ltb : b < s.heap.objs.size := by
        have e' : b = e ∨ b = it := by simpa using hb
        rcases e' with z | z
        · subst z; exact lt1
        · subst z; exact lt2
      rw [upd_ne (Nat.ne_of_lt ltb)]
      exact (hf b hb).1
  done := by
    intro X hP hw hK hc i pins s σ H E I hf st hg
    subst hP hw hK
    obtain ⟨⟨old, he⟩, hit, hne, hae, hai⟩ := st
    obtain ⟨xs, hq, hx⟩ := hg
    obtain ⟨its, rv, ht, hz⟩ := I.tuple hq
    obtain ⟨f0, f1, f2, f3, f4, f5⟩ := hf it (by simp)
    have dr := Draws.tuple (prog := X.prog) (w := X.w) (A := X.A.in1) (I.ok.hd hc) it a hai its.toArray
    have hn : its.toArray.size = i := by have := rv.length; simp; omega
    refine wpAny_pyNext_enum_endD dr he ?_ fun h' eb => ⟨rfl, I.turned (t' := s.toks) (fun b o hb q => eb b o hb q) f0 f1 f3 f4 f5⟩
    rw [hn]
    exact ⟨hit, ht⟩
  self := fun A i s Q E st h => by
    obtain ⟨⟨_, he⟩, _⟩ := st
    exact wpAny_pyIter_enum he h
def iEnumT (K : PySem.W.Frag) (ta : TA) : TI := fun σ H R => ta σ H fun vs H1 => ∃ a xs, vs = [.ref a] ∧ SqT K H1 a xs ∧ R (IteT K a) H1
theorem pi_enumT {X : Cx} {e : Expr} {ta : TA} {p pos tpos : Pos} {elts : List Expr} {kk : Nat} (hg : Gl X "enumerate") (hm : X.mg "enumerate" = none) (ha : PA X [e] ta) (hs : starEach [e] X.env = [(false, eval e X.env)]) :
    PI X (.Tuple elts kk tpos) (.Call (.Name "enumerate" p) [e] [] pos) (iEnumT X.K ta) := by
  constructor
  intro pins s σ H R I h
  refine Call_ (ld_blt I hg hm boot_enumerate (PyProof.Rows.callWith_type1 (thn (ha.run pos pins s σ H _ I h) fun us s1 ⟨vs, H1, I1, r1, q1⟩ => ?_) hs rfl))
  obtain ⟨a, xs, ex, hq, q⟩ := q1
  subst ex
  obtain ⟨u, rfl, ru⟩ := vals1 r1
  obtain rfl : u = Value.ref a := ru
  obtain ⟨its, rv, ht, hz⟩ := I1.tuple hq
  have lta : a < s1.heap.objs.size := by obtain ⟨o, ho, _⟩ := ht; exact Heap.lt_size ho
  refine call_enum1 (begins_tuple a its.toArray) ht fun h' he hit hsz hk => wpAny_pyIter_enum he ?_
  have I2 : Inv X pins σ H1 { s1 with heap := h' } := I1.kept (t' := s1.toks) hk
  refine ⟨s1.heap.objs.size + 1, [s1.heap.objs.size + 1, s1.heap.objs.size], _, _, H1, rfl, I2, turn_enumT a (s1.heap.objs.size + 1) s1.heap.objs.size, ⟨⟨.none, he⟩, ⟨_, hit, rfl, rfl⟩, Nat.succ_ne_self _, Nat.ne_of_lt (Nat.lt_succ_of_lt lta), Nat.ne_of_lt lta⟩, fun b hb => ?_, q⟩
  have e' : b = s1.heap.objs.size + 1 ∨ b = s1.heap.objs.size := by simpa using hb
  have hle : s1.heap.objs.size ≤ b := by
    rcases e' with z | z
    · subst z; exact Nat.le_add_right _ _
    · subst z; exact Nat.le_refl _
  exact I1.fpOk hle (I1.hok.fresh hle)
/-- the pairs of places and items -/
def enumD : Nat → List D → List D
  | _, [] => []
  | n, d :: ds => .tup [.int n, d] :: enumD (n + 1) ds
theorem enumD_length : ∀ (n : Nat) (ds : List D), (enumD n ds).length = ds.length
  | _, [] => rfl
  | n, d :: ds => by simp [enumD, enumD_length (n + 1) ds]
theorem enumD_get : ∀ {n : Nat} {ds : List D} {i : Nat} {d : D}, ds[i]? = some d → (enumD n ds)[i]? = some (.tup [.int ((n + i : Nat) : Int), d])
  | _, [], _, _, h => by simp at h
  | n, d :: ds, 0, _, h => by simp at h; subst h; rfl
  | n, d :: ds, i + 1, e, h => by
    have := enumD_get (n := n + 1) (ds := ds) (i := i) (d := e) (by simpa using h)
    have e2 : n + 1 + i = n + (i + 1) := by omega
    rw [e2] at this
    simpa [enumD] using this
theorem enumD_inv {n : Nat} {ds : List D} {i : Nat} {u : D} (h : (enumD n ds)[i]? = some u) : ∃ d, ds[i]? = some d ∧ u = .tup [.int ((n + i : Nat) : Int), d] := by
  have hlt := (List.getElem?_eq_some_iff.mp h).1
  rw [enumD_length] at hlt
  refine ⟨ds[i], by simp [hlt], ?_⟩
  have := enumD_get (n := n) (show ds[i]? = some ds[i] by simp [hlt])
  rw [h] at this
  exact Option.some.inj this
section
variable {X : Cx} {ρ ρ1 : Env} {e : Expr} {ds : List D} {u : D} {pos pp tpos : Pos} {elts : List Expr} {kk : Nat}
theorem yd_pair {K : PySem.W.Frag} {S0 : Hp} {vs : List V} (h : RpAll K S0 vs ds) {i : Nat} {H : Hp} {x v : V} {T : Addr} {H1 : Hp} (e1 : v = .ref T) (e2 : H T = none) (e3 : H1 = upd H T (.tup [.int (i : Nat), x])) (e4 : vs[i]? = some x) : YD K S0 (enumD 0 ds) i H v H1 := fun S e eS => by
  obtain ⟨d, h1, h2⟩ := h.get e4
  have hS : S T = none := eS.back e2
  refine ⟨_, enumD_get h1, .inr ⟨T, _, e2, e3, ?_⟩⟩
  rw [e1, Nat.zero_add]
  exact .tup (SqT.of upd_same) (.cons (.int _) (.cons ((h2.mono e).mono (.new hS)) .nil))
/-- for i, x in enumerate(e), e a list or a tuple -/
theorem it_enum (ha : ED X ρ e (.d u) ρ1) (hu : u.seq? = some ds) (hg : Gl X "enumerate") (hm : X.mg "enumerate" = none) (hs : starEach [e] X.env = [(false, eval e X.env)] := by rfl) :
    ItD X ρ (.Tuple elts kk tpos) (.Call (.Name "enumerate" pp) [e] [] pos) (enumD 0 ds) ρ1 := by
  have hA : AD X ρ [e] [.d u] ρ1 := ad_cons ha ad_nil (hs.trans rfl)
  cases u with
  | lst ds' =>
    cases hu
    exact it_of (pi_enum hg hm hA hs) fun σ H Q ⟨fr, S, ad, A, k⟩ => ⟨fr, S, ad, A, fun S1 H1 ad1 vs st1 A1 r1 => by
      obtain ⟨v, rfl, r⟩ := rv1 r1
      obtain ⟨a, ys, e1, e2, e3⟩ := r.dd.lst_inv
      refine ⟨a, ys, by rw [e1], ex_l A1.grow.sh e2, k S1 H1 ad1 _ st1 A1 ?_⟩
      have w := walk_enum (K := X.K) (a := a) (xs := ys)
      rw [e3.length, ← enumD_length 0] at w
      exact w.mono (fun H h => ex_l h e2) fun i H x H' _ _ ⟨T, p, q, h1, h2, h3, h4, h5⟩ => by
        cases h4
        exact yd_pair e3 h1 h2 h3 h5⟩
  | tup ds' =>
    cases hu
    exact it_of (pi_enumT hg hm hA hs) fun σ H Q ⟨fr, S, ad, A, k⟩ => ⟨fr, S, ad, A, fun S1 H1 ad1 vs st1 A1 r1 => by
      obtain ⟨v, rfl, r⟩ := rv1 r1
      obtain ⟨a, ys, e1, e2, e3⟩ := r.dd.tup_inv
      refine ⟨a, ys, by rw [e1], ex_t A1.grow.sh e2, k S1 H1 ad1 _ st1 A1 ?_⟩
      have hl : (enumD 0 ds).length = ys.length := by rw [enumD_length, e3.length]
      rw [hl]
      refine ⟨fun i H hi h => ⟨ys, ys[i], ex_t h e2, by simp [hi]⟩, fun H h => ⟨ys, ex_t h e2, rfl⟩, fun i H x H' hi h ⟨T, q, h1, h2, h3, h4⟩ => ?_⟩
      exact yd_pair e3 h1 h2 h3 (h4 ys (ex_t h e2))⟩
  | _ => cases hu
end
end DL

namespace DL
open PySem PySem.Spec PyProof.Rows L2
/-! ### match x: case [a, b] if guard: .. case _: .. -/
def MissV (K : PySem.W.Frag) (H : Hp) (v : V) : Prop := (∃ a xs, v = .ref a ∧ (SqL K H a xs ∨ SqT K H a xs) ∧ xs.length ≠ 2) ∨ v = .non ∨ (∃ b, v = .bl b) ∨ (∃ i, v = .int i) ∨ ∃ z, v = .str z
def tMatch2 (K : PySem.W.Frag) (i j : Nat) (te : TE) (tg : TT) (tb1 tb2 : TS) : TS := fun D σ H => te σ H fun v H1 =>
  (∃ a x y, v = .ref a ∧ (SqL K H1 a [x, y] ∨ SqT K H1 a [x, y]) ∧ tg ((σ.set i (some x)).set j (some y)) H1 fun b H2 => if b = true then tb1 D ((σ.set i (some x)).set j (some y)) H2 else tb2 D ((σ.set i (some x)).set j (some y)) H2) ∨
  (MissV K H1 v ∧ tb2 D σ H1)
theorem small63 {n : Nat} (h : n ≤ sizeLine) : (n : Int) < 2 ^ 63 := by
  rw [sizeLine_eq] at h; omega
theorem ps_match2 {X : Cx} {i j : Nat} {n1 n2 : Str} {sub g : Expr} {b1 b2 : List Stmt} {p1 p2 p3 p4 pos : Pos} {te : TE} {tg : TT} {tb1 tb2 : TS} (hc : X.calm = true) (hN : X.N.Nodup) (hi : X.N[i]? = some n1) (hj : X.N[j]? = some n2) (hx : Loc X.env.scope n1) (hy : Loc X.env.scope n2)
    (hfx : X.fn n1 = true ∨ X.env.scope.names.lookup n1 = some .local) (hfy : X.fn n2 = true ∨ X.env.scope.names.lookup n2 = some .local)
    (he : PE X sub te) (hg : PT X g tg) (h1 : PSs X b1 tb1) (h2 : PSs X b2 tb2) :
    PS X (.Match sub [⟨.MatchSequence [.MatchAs none (some n1) p1, .MatchAs none (some n2) p2] p3, some g, b1⟩, ⟨.MatchAs none none p4, none, b2⟩] pos) (tMatch2 X.K i j te tg tb1 tb2) := by
  constructor
  intro pins s σ H D I h
  refine wpAny_Match (thn (he.run pins s σ H _ I h) fun v s1 ⟨x, H1, I1, r1, q1⟩ => ?_)
  have dflt : ∀ {σ' : L2.St} {H' : Hp} {s' : Shared}, Inv X pins σ' H' s' → tb2 D σ' H' → wpAny (model X.prog X.w) X.A (matchCases [⟨.MatchAs none none p4, none, b2⟩] X.env v false) (SP X pins D) X.xe s' := by
    intro σ' H' s' I' q
    refine wpAny_matchCases_cons (wpAny_matchPattern_Capture ?_)
    show wpAny _ _ (assignInOrder [] []) _ _ _
    exact wpAny_assignInOrder_none (h2.run pins s' σ' H' D I' q)
  refine wpAny_matchCases_cons ?_
  rcases q1 with ⟨a, y, z, e1, hq, q⟩ | ⟨miss, q⟩
  · subst e1
    obtain rfl : v = Value.ref a := r1
    have fin : ∀ {u1 u2 : Value} {s2 : Shared}, Inv X pins σ H1 s2 → RelV y u1 → RelV z u2 → wpAny (model X.prog X.w) X.A (matchEach [.MatchAs none (some n1) p1, .MatchAs none (some n2) p2] X.env [u1, u2]) (fun r s₁ => match r with
          | none => wpAny (model X.prog X.w) X.A (matchCases [⟨.MatchAs none none p4, none, b2⟩] X.env (.ref a) false) (SP X pins D) X.xe s₁
          | some bs => wpAny (model X.prog X.w) X.A (assignInOrder (bs.map fun (n, _) => bindName X.env n) (bs.map (·.2))) (fun _ s₂ =>
              wpAny (model X.prog X.w) X.A (isTrue g X.env (eval g X.env))
                  (fun ok s₃ => if ok then wpAny (model X.prog X.w) X.A (execs b1 X.env) (SP X pins D) X.xe s₃ else wpAny (model X.prog X.w) X.A (matchCases [⟨.MatchAs none none p4, none, b2⟩] X.env (.ref a) false) (SP X pins D) X.xe s₃) X.xe s₂) X.xe s₁) X.xe s2 := by
      intro u1 u2 s2 I2 ry rz
      refine wpAny_matchEach_cons (wpAny_matchPattern_Capture (wpAny_matchEach_cons (wpAny_matchPattern_Capture (wpAny_matchEach_nil ?_))))
      show wpAny _ _ (assignInOrder [bindName X.env n1, bindName X.env n2] [u1, u2]) _ _ _
      refine wpAny_assignInOrder_more (wpAny_bindName (store_ok I2 hN hi hx ry (fun s3 I3 => ?_) hfx))
      refine wpAny_assignInOrder_more (wpAny_bindName (store_ok I3 hN hj hy rz (fun s4 I4 => ?_) hfy))
      refine wpAny_assignInOrder_none ?_
      refine thn (hg.run pins s4 _ H1 _ I4 q) fun bb s5 ⟨H5, I5, q5⟩ => ?_
      cases bb with
      | true => exact h1.run pins s5 _ H5 D I5 q5
      | false => exact dflt I5 q5
    rcases hq with hq | hq
    · obtain ⟨its, rv, pl, hz⟩ := I1.list hq
      obtain ⟨u1, u2, rfl, ry, rz⟩ := vals2 rv
      refine matchSeq_list_hit pl.isList (by show ((2 : Nat) : Int) < 2 ^ 63; decide) rfl ?_
      refine PySem.W.kun_itemsOf (s := { s1 with toks := s1.toks + 1 + 1 }) (items := #[u1, u2]) (I.ok.hd hc) pl.isList fun h' hx' => ?_
      exact fin (s2 := { s1 with heap := h', toks := s1.toks + 1 + 1 }) (I1.kept (h' := h') (t' := s1.toks + 1 + 1) fun b o e => hx' b o (Nat.ne_of_lt (Heap.lt_size e)) e) ry rz
    · obtain ⟨its, rv, ht, hz⟩ := I1.tuple hq
      obtain ⟨u1, u2, rfl, ry, rz⟩ := vals2 rv
      refine matchSeq_tuple_hit ht (by show ((2 : Nat) : Int) < 2 ^ 63; decide) rfl ?_
      refine unpackItems_tuple (items := #[u1, u2]) (I.ok.hd hc) ht fun h' hx' => ?_
      exact fin (s2 := { s1 with heap := h', toks := s1.toks + 1 + 1 }) (I1.kept (h' := h') (t' := s1.toks + 1 + 1) fun b o e => hx' b o (Nat.ne_of_lt (Heap.lt_size e)) e) ry rz
  · have bad : ∀ {t : Nat}, Inv X pins σ H1 { s1 with toks := t } := fun {t} => I1.tok t
    rcases miss with ⟨a, xs, e1, hq, hl⟩ | e1 | ⟨b, e1⟩ | ⟨i', e1⟩ | ⟨z, e1⟩
    · subst e1
      obtain rfl : v = Value.ref a := r1
      rcases hq with hq | hq
      · obtain ⟨its, rv, pl, hz⟩ := I1.list hq
        exact matchSeq_list_miss pl.isList (small63 (by rw [List.size_toArray, ← rv.length]; exact hz)) (by rw [List.size_toArray, ← rv.length]; exact hl) (dflt bad q)
      · obtain ⟨its, rv, ht, hz⟩ := I1.tuple hq
        exact matchSeq_tuple_miss ht (small63 (by rw [List.size_toArray, ← rv.length]; exact hz)) (by rw [List.size_toArray, ← rv.length]; exact hl) (dflt bad q)
    · subst e1
      cases (show v = Value.none from r1)
      refine wpAny_matchPattern_Sequence (wpAny_collectionFlag (T := "NoneType") rfl flag_seq_None ?_)
      exact dflt I1 q
    · subst e1
      cases (show v = Value.bool b from r1)
      refine wpAny_matchPattern_Sequence (wpAny_collectionFlag (T := "bool") rfl flag_seq_bool ?_)
      exact dflt I1 q
    · subst e1
      obtain ⟨t, rfl⟩ := (show ∃ t, v = Value.int i' t from r1)
      refine wpAny_matchPattern_Sequence (wpAny_collectionFlag (T := "int") rfl flag_seq_int ?_)
      exact dflt I1 q
    · subst e1
      obtain ⟨t, rfl⟩ := (show ∃ t, v = Value.str z t from r1)
      refine wpAny_matchPattern_Sequence (wpAny_collectionFlag (T := "str") rfl flag_seq_str ?_)
      exact dflt I1 q
section
variable {X : Cx} {ρ ρ1 ρ2 : Env} {sub g : Expr} {b1 b2 r : List Stmt} {p1 p2 p3 p4 pos : Pos} {n1 n2 : Str} {d x y : D} {ds : List D} {p : Bool} {k : Kn}
/-- it fits -/
theorem sds_matchHit (i j : Nat) (he : ED X ρ sub (.d d) ρ1) (hd : d.seq? = some [x, y]) (hg : TD X ((ρ1.put i (.d x)).put j (.d y)) g p ρ2) (h1 : p = true → SDs X ρ2 b1 { k with nx := fun ρ' => SDs X ρ' r k }) (h2 : p = false → SDs X ρ2 b2 { k with nx := fun ρ' => SDs X ρ' r k })
    (hc : X.calm = true) (hN : X.N.Nodup) (hi : X.N[i]? = some n1) (hj : X.N[j]? = some n2) (hx : Loc X.env.scope n1) (hy : Loc X.env.scope n2) (hfx : X.fn n1 = true ∨ X.env.scope.names.lookup n1 = some .local) (hfy : X.fn n2 = true ∨ X.env.scope.names.lookup n2 = some .local) :
    SDs X ρ (.Match sub [⟨.MatchSequence [.MatchAs none (some n1) p1, .MatchAs none (some n2) p2] p3, some g, b1⟩, ⟨.MatchAs none none p4, none, b2⟩] pos :: r) k := by
  refine sds_cons (sd_of (ps_match2 hc hN hi hj hx hy hfx hfy he hg (pss_any (P := fun ρ' k' => p = true ∧ ρ' = ρ2 ∧ k' = { k with nx := fun ρ' => SDs X ρ' r k }) fun ρ' k' h => ?_) (pss_any (P := fun ρ' k' => p = false ∧ ρ' = ρ2 ∧ k' = { k with nx := fun ρ' => SDs X ρ' r k }) fun ρ' k' h => ?_)) fun Dn σ H ⟨fr, S, ad, A, kk⟩ => ⟨fr, S, ad, A, fun S1 H1 ad1 v st A1 r1 => ?_⟩)
  · obtain ⟨h, rfl, rfl⟩ := h; exact h1 h
  · obtain ⟨h, rfl, rfl⟩ := h; exact h2 h
  · obtain ⟨a, vs, e1, e2, e3⟩ := r1.dd.seq hd
    cases e3 with
    | cons ra t =>
      cases t with
      | cons rb t =>
        cases t
        refine .inl ⟨a, _, _, e1, e2.imp (ex_l A1.grow.sh) (ex_t A1.grow.sh), fr, S1, ad1, (A1.setSl (.d ra)).setSl (.d rb), fun S2 H2 ad2 st2 A2 => ?_⟩
        cases p with
        | true => exact iteT ⟨ρ2, _, ⟨rfl, rfl, rfl⟩, fr, S2, ad2, A2, kk⟩
        | false => exact iteF ⟨ρ2, _, ⟨rfl, rfl, rfl⟩, fr, S2, ad2, A2, kk⟩
/-- it does not -/
def D.miss : D → Bool
  | .lst ds => ds.length != 2
  | .tup ds => ds.length != 2
  | .non => true | .bl _ => true | .int _ => true | .str _ => true
  | _ => false
theorem sds_matchMiss (he : ED X ρ sub (.d d) ρ1) (hd : d.miss = true) (h2 : SDs X ρ1 b2 { k with nx := fun ρ' => SDs X ρ' r k })
    {i j : Nat} (hc : X.calm = true) (hN : X.N.Nodup) (hi : X.N[i]? = some n1) (hj : X.N[j]? = some n2) (hx : Loc X.env.scope n1) (hy : Loc X.env.scope n2) (hfx : X.fn n1 = true ∨ X.env.scope.names.lookup n1 = some .local) (hfy : X.fn n2 = true ∨ X.env.scope.names.lookup n2 = some .local) :
    SDs X ρ (.Match sub [⟨.MatchSequence [.MatchAs none (some n1) p1, .MatchAs none (some n2) p2] p3, some g, b1⟩, ⟨.MatchAs none none p4, none, b2⟩] pos :: r) k := by
  have hg : PT X g (fun _ _ _ => False) := ⟨fun _ _ _ _ _ _ h => h.elim⟩
  have hb : PSs X b1 (fun _ _ _ => False) := ⟨fun _ _ _ _ _ _ h => h.elim⟩
  refine sds_cons (sd_of (ps_match2 hc hN hi hj hx hy hfx hfy he hg hb h2) fun Dn σ H ⟨fr, S, ad, A, kk⟩ => ⟨fr, S, ad, A, fun S1 H1 ad1 v st A1 r1 => .inr ⟨?_, fr, S1, ad1, A1, kk⟩⟩)
  have rp := r1.dd
  unfold MissV
  cases rp with
  | non => exact .inr (.inl rfl)
  | bl b => exact .inr (.inr (.inl ⟨b, rfl⟩))
  | int z => exact .inr (.inr (.inr (.inl ⟨z, rfl⟩)))
  | str z => exact .inr (.inr (.inr (.inr ⟨z, rfl⟩)))
  | lst q t =>
    have hd : (_ != 2) = true := hd
    exact .inl ⟨_, _, rfl, .inl (ex_l A1.grow.sh q), by rw [t.length]; simpa using hd⟩
  | tup q t =>
    have hd : (_ != 2) = true := hd
    exact .inl ⟨_, _, rfl, .inr (ex_t A1.grow.sh q), by rw [t.length]; simpa using hd⟩
  | _ => cases hd
end
end DL

namespace DL
open PySem PySem.Spec PyProof.Rows L2
theorem relV_ni {v : V} (h : RelV v .notImplemented) : False := by
  cases v with
  | non => exact nomatch (show Value.notImplemented = Value.none from h)
  | bl b => exact nomatch (show Value.notImplemented = Value.bool b from h)
  | ref a => exact nomatch (show Value.notImplemented = Value.ref a from h)
  | ty n => exact nomatch (show Value.notImplemented = Value.type n from h)
  | int i => obtain ⟨t, z⟩ := (show ∃ t, Value.notImplemented = Value.int i t from h); cases z
  | str i => obtain ⟨t, z⟩ := (show ∃ t, Value.notImplemented = Value.str i t from h); cases z
  | byt i => obtain ⟨t, z⟩ := (show ∃ t, Value.notImplemented = Value.bytes i t from h); cases z
  | flt i => obtain ⟨t, z⟩ := (show ∃ t, Value.notImplemented = Value.float i t from h); cases z
theorem CX0_pass {X : Cx} {E : XK} : Passes CX0 X E := fun _ _ _ _ _ _ _ h => h.elim
section
variable {X : Cx} {ρ ρ' ρ1 ρ2 ρ3 : Env} {e a b c fe : Expr} {es : List Expr} {x y z : VD} {xs ys : List VD} {pos pp apos spos : Pos} {ds dt : List D} {n m : Str} {R : FSpec} {C : Addr} {ns : List Str}
theorem AllD.tr1 {ks : List Nat} {xs : List VD} {ds : List D} {d : D} (h : AllD xs ds) : TrAll ks (.d d :: xs) (.d d :: xs) := .cons (.d _) h.tr
/-- o.m(e, ..) of data -/
theorem ed_meth {rr : D} {pl : Sem Bool} (F : CM X C m R) (ho : ED X ρ a (.d (.ins C ns ds)) ρ1) (ha : AD X ρ1 (e :: es) xs ρ2) (hd : AllD xs dt) (hR : R (.d (.ins C ns ds) :: xs) [] rr []) (hm : m ∉ ns)
    (hst : starEach (e :: es) X.env = (false, eval e X.env) :: starEach es X.env := by rfl) (hpl : (backTo pos (starEach es X.env)).any (·.1) = false := by rfl)
    (ht : eval (.Call (.Attribute a m apos) (e :: es) [] pos) X.env = (do
      let ov ← eval a X.env
      standAt apos.atName
      let (f, first) ← holding [ov] (getMethod ov m pl)
      callWith pos f first (backTo pos (starEach (e :: es) X.env)) (backToKw pos (keywordEach [] X.env))) := by rfl) :
    ED X ρ (.Call (.Attribute a m apos) (e :: es) [] pos) (.d rr) ρ2 := by
  obtain ⟨f, j, G, hr, hM⟩ := F.ex
  refine ed_of (pe_methR (E := E0) (pl := pl) ho F.cl hM G hr CX0_pass ha hst hpl ht) fun σ H Q ⟨fr, S, ad, A, kk⟩ => ⟨fr, S, ad, A, fun S1 H1 ad1 v st1 A1 r1 => ?_⟩
  obtain ⟨l, dx, vs, e1, e2, e3, e4⟩ := r1.dd.ins_inv
  refine ⟨l, dx, _, e1, A1.grow.sh _ _ e2, lookup_zip_none hm, fr, S1, ad1, A1, fun S2 H2 ad2 ws st2 A2 r2 => ?_⟩
  exact A2.call (.cons (r1.mono st2) r2) hd.tr1 Lend.nil hR rfl fun S' H' v' st' A' rp => kk S' H' ad2 v' ((st1.trans st2).trans st') A' (.d rp)
theorem pe_methR0 {k : Nat} {f : Addr} {sp : Sp} {E : XK} {o : Expr} {ta : TE} {pl : Sem Bool} (he : PE X o ta) (c : Cls X.K C) (hm : Meth X.K C m f) (F : FnR X.prog X.w X.K X.mg X.base CX0 k f sp) (hr : Room k X.A)
    (ht : eval (.Call (.Attribute o m apos) [] [] pos) X.env = (do
      let ov ← eval o X.env
      standAt apos.atName
      let (f, first) ← holding [ov] (getMethod ov m pl)
      callWith pos f first (backTo pos (starEach [] X.env)) (backToKw pos (keywordEach [] X.env)))) :
    PE X (.Call (.Attribute o m apos) [] [] pos) (tMethR C m sp E ta tNil) := by
  constructor
  intro pins s σ H Q I h
  refine PySem.W.methodCall_KW (pl := pl) (thn (he.run pins s σ H _ I h) fun u s1 ⟨x, H1, I1, rx, a, dx, fs, ex, ea, l, q⟩ => ?_) ht
  subst ex
  obtain rfl : u = Value.ref a := rx
  refine getmeth_ok I1 ea c hm l ?_
  exact PySem.W.callWith_K0 (first := [.ref a]) I1.kIn hm.kp (wpAny_call (run_fnR (E := E) (us := [.ref a]) (vs := [.ref a]) F hr CX0_pass I1 (.cons rfl .nil) q))
theorem ed_meth0 {rr : D} {pl : Sem Bool} (F : CM X C m R) (ho : ED X ρ a (.d (.ins C ns ds)) ρ1) (hR : R [.d (.ins C ns ds)] [] rr []) (hm : m ∉ ns)
    (ht : eval (.Call (.Attribute a m apos) [] [] pos) X.env = (do
      let ov ← eval a X.env
      standAt apos.atName
      let (f, first) ← holding [ov] (getMethod ov m pl)
      callWith pos f first (backTo pos (starEach [] X.env)) (backToKw pos (keywordEach [] X.env))) := by rfl) :
    ED X ρ (.Call (.Attribute a m apos) [] [] pos) (.d rr) ρ1 := by
  obtain ⟨f, j, G, hr, hM⟩ := F.ex
  refine ed_of (pe_methR0 (E := E0) (pl := pl) ho F.cl hM G hr ht) fun σ H Q ⟨fr, S, ad, A, kk⟩ => ⟨fr, S, ad, A, fun S1 H1 ad1 v st1 A1 r1 => ?_⟩
  obtain ⟨l, dx, vs, e1, e2, e3, e4⟩ := r1.dd.ins_inv
  refine ⟨l, dx, _, e1, A1.grow.sh _ _ e2, lookup_zip_none hm, ?_⟩
  exact A1.call (E := E0) (xs := [.d (.ins C ns ds)]) (.cons r1 .nil) (.cons (.d _) .nil) Lend.nil hR rfl fun S' H' v' st' A' rp => kk S' H' ad1 v' (st1.trans st') A' (.d rp)
/-- an instance is called: f(e, ..) -/
structure COs (P : Program) (w : World) (K : PySem.W.Frag) (mg : Str → Option Value) (base : Heap) (A : Around) (C : Addr) (R : FSpec) : Prop where
  ex : ∃ f j, FnR P w K mg base CX0 j f (spF K R) ∧ Room j A ∧ StX.CallO K C f
abbrev CO (X : Cx) : Addr → FSpec → Prop := COs X.prog X.w X.K X.mg X.base X.A
theorem ed_callO {rr : D} (F : CO X C R) (ho : ED X ρ fe (.d (.ins C ns ds)) ρ1) (ha : AD X ρ1 (e :: es) xs ρ2) (hd : AllD xs dt) (hR : R (.d (.ins C ns ds) :: xs) [] rr [])
    (ht : eval (.Call fe (e :: es) [] pos) X.env = (do callWith pos (← eval fe X.env) [] (backTo pos (starEach (e :: es) X.env)) (backToKw pos (keywordEach [] X.env))) := by rfl)
    (he : starEach (e :: es) X.env = (false, eval e X.env) :: starEach es X.env := by rfl) (hpl : (backTo pos (starEach es X.env)).any (·.1) = false := by rfl) :
    ED X ρ (.Call fe (e :: es) [] pos) (.d rr) ρ2 := by
  obtain ⟨f, j, G, hr, hM⟩ := F.ex
  refine ed_of (StX.pe_callO (E := E0) ho hM G hr CX0_pass ha ht he hpl) fun σ H Q ⟨fr, S, ad, A, kk⟩ => ⟨fr, S, ad, A, fun S1 H1 ad1 v st1 A1 r1 => ?_⟩
  obtain ⟨l, dx, vs, e1, e2, e3, e4⟩ := r1.dd.ins_inv
  refine ⟨l, e1, fr, S1, ad1, A1, fun S2 H2 ad2 ws st2 A2 r2 => ⟨.inr ⟨dx, _, A2.grow.sh _ _ (st2.s _ _ e2)⟩, ?_⟩⟩
  have rr1 := r1.mono st2
  rw [e1] at rr1
  exact A2.call (.cons rr1 r2) hd.tr1 Lend.nil hR rfl fun S' H' v' st' A' rp => kk S' H' ad2 v' ((st1.trans st2).trans st') A' (.d rp)
/-! ### len(o), o + p by own methods -/
theorem ins_inst {pins : List (Addr × Obj)} {σ : L2.St} {H : Hp} {s : Shared} {l dx : Addr} {fs : List (Str × V)} (I : Inv X pins σ H s) (h : H l = some (.ins C dx fs)) : ∃ ox od, PySem.W.InstAt s.heap l ox C od := by
  obtain ⟨mA, O, _⟩ := ins_get I.hok h
  obtain ⟨od, J, _⟩ := O.look
  exact ⟨_, _, J⟩
theorem run_in1 {pins : List (Addr × Obj)} {σ : L2.St} {H : Hp} {s : Shared} {k : Nat} {f : Addr} {sp : Sp} {E : XK} {Q : VK} {us : List Value} {vs : List V} (F : FnR X.prog X.w X.K X.mg X.base CX0 k f sp) (hr : Room (k + 1) X.A) (I : Inv X pins σ H s) (r : Vals vs us) (h : sp vs H Q E) :
    wpAny (model X.prog X.w) X.A.in1 (call (.ref f) us) (EP X pins σ Q) X.xe s := by
  refine wpAny_call (codeAny_mono (F X.A.in1 X.stack s H us vs Q E hr.in1 I.env0.in1 r h) fun r s' hq => ?_)
  cases r with
  | error e => exact hq.elim
  | ok fl =>
    cases fl with
    | ret u => exact I.after hq
    | next => exact hq.elim
    | brk => exact hq.elim
    | cont => exact hq.elim
/-- a special method of the class at C, one call deeper -/
structure CSs (P : Program) (w : World) (K : PySem.W.Frag) (mg : Str → Option Value) (base : Heap) (A : Around) (C : Addr) (m : Str) (R : FSpec) : Prop where
  ex : ∃ f j, FnR P w K mg base CX0 j f (spF K R) ∧ Room (j + 1) A ∧ PySem.W.findIn K (.ref C) m = some (some (.ref f)) ∧ PySem.W.isFn K (.ref f) = true ∧ PySem.W.selfFirst K C = true
abbrev CS (X : Cx) : Addr → Str → FSpec → Prop := CSs X.prog X.w X.K X.mg X.base X.A
def rLenO (C f : Addr) (sp : Sp) : List V → Hp → VK → Prop := fun xs H Q => ∃ l dx fs, xs = [.ref l] ∧ H l = some (.ins C dx fs) ∧ sp [.ref l] H (fun v H' => ∃ i : Int, v = .int i ∧ 0 ≤ i ∧ i < 2 ^ 63 ∧ Q (.int i) H') E0
theorem call_lenO {f : Addr} {j : Nat} {sp : Sp} (F : FnR X.prog X.w X.K X.mg X.base CX0 j f sp) (hr : Room (j + 1) X.A) (hf : PySem.W.findIn X.K (.ref C) "__len__" = some (some (.ref f))) (hi : PySem.W.isFn X.K (.ref f) = true) : CallR X (.builtin "len") (rLenO C f sp) := by
  intro pins s σ H xs us Q I r h
  obtain ⟨l, dx, fs, rfl, hl, hq⟩ := h
  obtain ⟨u, rfl, ru⟩ := vals1 r
  obtain rfl : u = Value.ref l := ru
  obtain ⟨ox, od, J⟩ := ins_inst I hl
  obtain ⟨mm, Fr0⟩ := I.fr
  refine PySem.W.len_K Fr0 I.mod.kin J hf hi (thn (run_in1 (vs := [.ref l]) F hr I (.cons rfl .nil) hq) fun u s1 ⟨v, H1, I1, rv, i, e1, e2, e3, q⟩ => ?_)
  subst e1
  obtain ⟨t, rfl⟩ := (show ∃ t, u = Value.int i t from rv)
  exact ⟨⟨e2, e3⟩, .int i, H1, I1.tok _, ⟨_, rfl⟩, q⟩
theorem cb_lenI {i : Int} (F : CS X C "__len__" R) (hR : R [.d (.ins C ns ds)] [] (.int i) []) (h0 : 0 ≤ i) (h1 : i < 2 ^ 63) : CBR X (.builtin "len") ρ [.d (.ins C ns ds)] (.d (.int i)) ρ := by
  obtain ⟨f, j, G, hr, hf, hi, _⟩ := F.ex
  refine ⟨_, call_lenO G hr hf hi, fun fr σ S H ad vs Q A r0 k => ?_⟩
  obtain ⟨v, rfl, r⟩ := rv1 r0
  obtain ⟨l, dx, ws, e1, e2, e3, e4⟩ := r.dd.ins_inv
  subst e1
  refine ⟨l, dx, _, rfl, A.grow.sh _ _ e2, ?_⟩
  refine A.call (xs := [.d (.ins C ns ds)]) (.cons r .nil) (.cons (.d _) .nil) Lend.nil hR rfl fun S' H' v' st' A' rp => ?_
  exact ⟨i, rp.int_inv, h0, h1, k S' H' ad _ st' A' (.d (.int _))⟩
def rBinO (C : Addr) (sp : Sp) : R2 := fun x y H Q => ∃ l dx fs l' dx' fs', x = .ref l ∧ y = .ref l' ∧ H l = some (.ins C dx fs) ∧ H l' = some (.ins C dx' fs') ∧ sp [x, y] H Q E0
theorem op_binO {op : Operator} {f : Addr} {j : Nat} {sp : Sp} (F : FnR X.prog X.w X.K X.mg X.base CX0 j f sp) (hr : Room j X.A) (hc : PySem.W.selfFirst X.K C = true) (hf : PySem.W.findIn X.K (.ref C) (PySem.dunder op.info.2) = some (some (.ref f))) (hi : PySem.W.isFn X.K (.ref f) = true) :
    OpR X (binaryOp op) (rBinO C sp) := by
  intro pins s σ H x y u v Q I rx ry h
  obtain ⟨l, dx, fs, l', dx', fs', rfl, rfl, hl, hl', hq⟩ := h
  obtain rfl : u = Value.ref l := rx
  obtain rfl : v = Value.ref l' := ry
  obtain ⟨ox, od, J⟩ := ins_inst I hl
  obtain ⟨ox', od', J'⟩ := ins_inst I hl'
  obtain ⟨mm, Fr0⟩ := I.fr
  refine PySem.W.binop_K Fr0 I.mod.kin J J'.type hc hf hi (thn (wpAny_call (run_fnR (E := E0) (vs := [.ref l, .ref l']) F hr CX0_pass I (.cons rfl (.cons rfl .nil)) hq)) fun w s1 ⟨v, H1, I1, rv, q⟩ => ?_)
  have hne : w ≠ .notImplemented := fun z => by subst z; exact relV_ni rv
  have fin : EP X pins σ Q w s1 := ⟨v, H1, I1, rv, q⟩
  cases w <;> first | exact absurd rfl hne | exact fin
theorem ed_binO {op : Operator} {rr : D} {ds' : List D} (F : CS X C (PySem.dunder op.info.2) R)
    (ha : ED X ρ a (.d (.ins C ns ds)) ρ1) (hb : ED X ρ1 b (.d (.ins C ns ds')) ρ2) (hR : R [.d (.ins C ns ds), .d (.ins C ns ds')] [] rr []) : ED X ρ (.BinOp a op b pos) (.d rr) ρ2 := by
  obtain ⟨f, j, G, hr, hf, hi, hc⟩ := F.ex
  exact ed_of (pe_op (op_binO G (hr.mono (Nat.le_succ j)) hc hf hi) ha hb) fun σ H Q hk => two_ σ H Q _ hk fun fr S ad S1 H1 ad1 v1 v2 A st r1 r2 kk => by
    obtain ⟨l, dx, vs, e1, e2, e3, e4⟩ := r1.dd.ins_inv
    obtain ⟨l', dx', vs', f1, f2, f3, f4⟩ := r2.dd.ins_inv
    refine ⟨l, dx, _, l', dx', _, e1, f1, A.grow.sh _ _ e2, A.grow.sh _ _ f2, ?_⟩
    exact A.call (xs := [.d (.ins C ns ds), .d (.ins C ns ds')]) (.cons r1 (.cons r2 .nil)) (.cons (.d _) (.cons (.d _) .nil)) Lend.nil hR rfl fun S' H' v' st' A' rp => kk S' H' ad1 v' st' A' (.d rp)
/-! ### making an instance -/
/-- what __init__ promises: self is the lent object, empty ahead -/
structure MKs (P : Program) (w : World) (K : PySem.W.Frag) (mg : Str → Option Value) (base : Heap) (A : Around) (C : Addr) (x : Str) (R : FSpec) : Prop where
  ex : ∃ f j, FnR P w K mg base CX0 j f (spF K R) ∧ Room (j + 1) A ∧ Mk K C f ∧ mg x = some (.ref C)
abbrev MKc (X : Cx) : Addr → Str → FSpec → Prop := MKs X.prog X.w X.K X.mg X.base X.A
/-- __init__ at the new instance -/
theorem make_sp {K : PySem.W.Frag} {fr : Fr} {σ : L2.St} {S H : Hp} {ad : List Addr} {vs : List V} {Q : VK} {o : OD} {dd : D} (A : Rel K fr ρ σ S H ad) (hv : RvAll K S ad vs xs) (hd : AllD xs ds) (hR : R (.loc 0 :: xs) [.ins C [] []] .non [o]) (ho : ODD o dd) {l dx : Addr} (h1 : H l = none) (h2 : H dx = none) (h3 : dx ≠ l)
    (k : ∀ S' H', Step S ad S' ad → Rel K fr ρ σ S' H' ad → Rp K S' (.ref l) dd → Q (.ref l) H') : spF K R (.ref l :: vs) (upd (upd H dx (.own l)) l (.ins C dx [])) (fun v H2 => v = .non ∧ Q (.ref l) H2) E0 := by
  have S1 : S l = none := A.grow.sh.back h1
  have S2 : S dx = none := A.grow.sh.back h2
  have exH : Ex H (upd (upd H dx (.own l)) l (.ins C dx [])) := (Ex.new h2).trans (Ex.new (by rw [upd_ne h3.symm]; exact h1))
  refine ⟨S, [l], .loc 0 :: xs, [.ins C [] []], .non, [o], A.grow.sh.trans exH, .cons (.loc rfl) ?_, ⟨rfl, fun n u e => ?_⟩, by simp, hR, fun u hu => ?_, fun S' H' v g rp oa => ⟨rp.non_inv, ?_⟩⟩
  · have := hd.rp hv
    clear hR
    induction hd generalizing vs with
    | nil => cases hv; exact .nil
    | cons _ ih =>
      cases hv with
      | cons r t =>
        cases this with
        | cons a b => exact .cons (.d a) (ih t b)
  · cases n with
    | zero =>
      simp at e
      subst e
      exact ⟨l, _, rfl, S1, upd_same, rfl, [], rfl, rfl, .nil⟩
    | succ n => simp at e
  · have : u = .ins C [] [] := by simpa using hu
    subst this
    exact ⟨[], .nil⟩
  · -- the new instance is data from now on
    obtain ⟨l', ho', e1, e2, e3, e4⟩ := oa.at_ 0 o rfl
    have : l' = l := by simpa using e1.symm
    subst this
    have hst : Step S' ad (upd S' l' ho') ad := ⟨.new e2, [], by simp⟩
    have hst0 : Step S ad S' ad := ⟨g.s, [], by simp⟩
    have rp' : Rp K (upd S' l' ho') (.ref l') dd := by
      have e4 : OR K (upd S' l' ho') ad ho' o := OR.mono (S := S') (ad := []) ⟨hst.s, ad, by simp⟩ e4
      cases ho with
      | lst ds => cases ho' <;> first | exact e4.elim | exact .lst (SqL.of upd_same) e4
      | dic ks ds =>
        cases ho' <;> first | exact e4.elim | skip
        obtain ⟨vs, h1, h2, h3⟩ := e4
        subst h1
        exact .dic upd_same h2 h3
      | ins C' ns hA =>
        cases ho' <;> first | exact e4.elim | skip
        obtain ⟨h0, vs, h1, h2, h3⟩ := e4
        subst h0 h1
        exact .ins upd_same h2 (hA.rp h3)
    have keep : ∀ a u, H a = some u → H' a = some u := fun a u e => g.h a u (exH a u e) (by simp; exact ne_of_none e h1)
    have none' : ∀ a, S a = none → H a ≠ none → S' a = none := fun a e1 e2 => g.n a e1 (by
      cases q : H a with
      | none => exact absurd q e2
      | some u => rw [exH a u q]; simp)
    have fr0 : fr.H l' = none := A.fr0 h1
    refine k (upd S' l' ho') H' (hst0.trans hst) ⟨⟨A.grow.s.trans (hst0.s.trans hst.s), fun a u e => ?_, fun a u e hm => keep a u (A.grow.h a u e hm), fun a f1 f2 => ?_⟩, fun i w e => ?_, fun i u e => ?_, A.mm, A.nd, A.len, A.al, A.ml, fun a ha => ?_⟩ rp'
    · by_cases h : a = l'
      · subst h; rw [upd_same] at e; cases e; exact e3
      · rw [upd_ne h] at e; exact g.sh a u e
    · have ne : a ≠ l' := fun z => f2 (z ▸ fr0)
      rw [upd_ne ne]
      exact none' a (A.grow.n a f1 f2) (A.old f2)
    · obtain ⟨v', q1, q2⟩ := A.slots i w e
      exact ⟨v', q1, q2.mono (hst0.trans hst)⟩
    · obtain ⟨l2, u2, q1, q2, q3, q4, q5⟩ := A.own i u e
      have ne : l2 ≠ l' := ne_of_none q3 h1
      exact ⟨l2, u2, q1, by rw [upd_ne ne]; exact none' l2 q2 (by rw [q3]; simp), keep l2 u2 q3, q4.mono (hst0.trans hst), q5⟩
    · cases q : H a with
      | none => exact absurd q (A.lv a ha)
      | some u => rw [keep a u q]; simp
/-- C(e, ..) -/
theorem ed_make {o : OD} {dd : D} (F : MKc X C n R) (ha : AD X ρ (e :: es) xs ρ1) (hd : AllD xs ds) (hR : R (.loc 0 :: xs) [.ins C [] []] .non [o]) (ho : ODD o dd) (hg : Gl X n) (hdb : (n == ("__debug__" : Str)) = false := by decide)
    (he : starEach (e :: es) X.env = (false, eval e X.env) :: starEach es X.env := by rfl) (hpl : (backTo pos (starEach es X.env)).any (·.1) = false := by rfl) : ED X ρ (.Call (.Name n pp) (e :: es) [] pos) (.d dd) ρ1 := by
  obtain ⟨f, j, G, hr, hM, hm⟩ := F.ex
  exact ed_of (StX.pe_makeR (E := E0) hM G hr hg hm CX0_pass ha hdb he hpl) fun σ H Q ⟨fr, S, ad, A, kk⟩ => ⟨fr, S, ad, A, fun S1 H1 ad1 vs st1 A1 r1 l dx h1 h2 h3 =>
    make_sp A1 r1 hd hR ho h1 h2 h3 fun S' H' st' A' rp => kk S' H' ad1 _ (st1.trans st') A' (.d rp)⟩
/-- C() -/
theorem pe_makeR0 {k : Nat} {f : Addr} {sp : Sp} (M : Mk X.K C f) (F : FnR X.prog X.w X.K X.mg X.base CX0 k f sp) (hr : Room (k + 1) X.A) (hg : Gl X n) (hm : X.mg n = some (.ref C)) (hdb : (n == ("__debug__" : Str)) = false) : PE X (.Call (.Name n pp) [] [] pos) (StX.tMakeR C sp E0 tNil) := by
  constructor
  intro pins s σ H Q I h
  refine wpAny_Call_Name_kw (ld_glob I hg hm ?_ hdb)
  exact PySem.W.callWith_K0 I.kIn M.kp (StX.run_makeR (E := E0) (us := []) (vs := []) M F hr CX0_pass I .nil h)
theorem ed_make0 {o : OD} {dd : D} (F : MKc X C n R) (hR : R [.loc 0] [.ins C [] []] .non [o]) (ho : ODD o dd) (hg : Gl X n) (hdb : (n == ("__debug__" : Str)) = false := by decide) : ED X ρ (.Call (.Name n pp) [] [] pos) (.d dd) ρ := by
  obtain ⟨f, j, G, hr, hM, hm⟩ := F.ex
  exact ed_of (pe_makeR0 hM G hr hg hm hdb) fun σ H Q ⟨fr, S, ad, A, kk⟩ l dx h1 h2 h3 =>
    make_sp A .nil .nil hR ho h1 h2 h3 fun S' H' st' A' rp => kk S' H' ad _ st' A' (.d rp)
/-- C(*e) -/
theorem pe_makeS {k : Nat} {f : Addr} {sp : Sp} {te : TE} (M : Mk X.K C f) (F : FnR X.prog X.w X.K X.mg X.base CX0 k f sp) (hr : Room (k + 1) X.A) (hg : Gl X n) (hm : X.mg n = some (.ref C)) (he : PE X e te) (hdb : (n == ("__debug__" : Str)) = false)
    (hst : starEach [.Starred e spos] X.env = [(true, eval e X.env)]) :
    PE X (.Call (.Name n pp) [.Starred e spos] [] pos) (fun σ H Q => te σ H fun y H1 => ∃ a vs, y = V.ref a ∧ (SqT X.K H1 a vs ∨ SqL X.K H1 a vs) ∧ ∀ x dx, H1 x = none → H1 dx = none → dx ≠ x →
      sp (.ref x :: vs) (upd (upd H1 dx (.own x)) x (.ins C dx [])) (fun v H2 => v = .non ∧ Q (.ref x) H2) E0) := by
  constructor
  intro pins s σ H Q I h
  refine wpAny_Call_Name_kw (ld_glob I hg hm ?_ hdb)
  refine PySem.W.callWith_S (h₀ := X.base) I.ok.mod.kin M.kp (thn (he.run pins s σ H _ I h) fun v s1 ⟨y, H1, I1, ry, a, vs, ey, hxs, q⟩ => ?_) hst
  subst ey
  obtain rfl : v = Value.ref a := ry
  exact StX.star_any I1 hxs fun us s2 I2 rv => ⟨I2.kIn, StX.run_makeR (E := E0) M F hr CX0_pass I2 rv q⟩
theorem ed_makeS {o : OD} {dd u : D} (F : MKc X C n R) (ha : ED X ρ e (.d u) ρ1) (hu : u.seq? = some ds) (hR : R (.loc 0 :: ds.map VD.d) [.ins C [] []] .non [o]) (ho : ODD o dd) (hg : Gl X n) (hdb : (n == ("__debug__" : Str)) = false := by decide)
    (hst : starEach [.Starred e spos] X.env = [(true, eval e X.env)] := by rfl) : ED X ρ (.Call (.Name n pp) [.Starred e spos] [] pos) (.d dd) ρ1 := by
  obtain ⟨f, j, G, hr, hM, hm⟩ := F.ex
  exact ed_of (pe_makeS hM G hr hg hm ha hdb hst) fun σ H Q ⟨fr, S, ad, A, kk⟩ => ⟨fr, S, ad, A, fun S1 H1 ad1 v st1 A1 r1 => by
    obtain ⟨a, vs, e1, e2, e3⟩ := r1.dd.seq hu
    refine ⟨a, vs, e1, (e2.imp (ex_l A1.grow.sh) (ex_t A1.grow.sh)).symm, fun l dx h1 h2 h3 => ?_⟩
    exact make_sp A1 (.of_d e3) (.of_map ds) hR ho h1 h2 h3 fun S' H' st' A' rp => kk S' H' ad1 _ (st1.trans st') A' (.d rp)⟩
end
end DL

namespace DL
open PySem PySem.Spec PyProof.Rows L2
/-! ### def f(a, *rest) -/
/-- the arguments behind the first are put into a tuple -/
def starR (R : FSpec) : FSpec := fun xs os r os' => ∃ (z : VD) (rest : List VD) (ds : List D), xs = z :: rest ∧ AllD rest ds ∧ ds.length ≤ sizeLine ∧ R [z, .d (.tup ds)] os r os'
section
variable {P : Program} {w : World} {K : PySem.W.Frag} {mg : Str → Option Value} {base : Heap} {x qual : Str} {params : Arguments} {body : List Stmt} {scope : Scope} {f : Addr} {fd : FuncData} {N : List Str} {j : Nat} {R : FSpec} {p1 pv : Str}
theorem fn_starD (F : FunD K x qual params body scope [] [] f fd) (sc : FnScope N [p1, pv] scope)
    (h0 : ∀ (kV doc pm : Value) (an : Option Addr) (cdv ct a : Value), bindArgs (PySem.W.fnOf x qual params body scope .none kV doc pm an cdv ct) ⟨[a], []⟩ = (newTuple [] >>= fun t => pure [(p1, a), (pv, t)]))
    (h1 : ∀ (kV doc pm : Value) (an : Option Addr) (cdv ct a r : Value) (rs : List Value), bindArgs (PySem.W.fnOf x qual params body scope .none kV doc pm an cdv ct) ⟨a :: r :: rs, []⟩ = (newTuple (r :: rs) >>= fun t => pure [(p1, a), (pv, t)]))
    (hlen : ∀ xs os r os', R xs os r os' → xs.length = 2 ∧ os'.length = os.length ∧ ∀ o ∈ os', o.free)
    (hbody : ∀ (cdv : Value) (A : Around) (outer : List PySem.Env) (s : Shared) (H : Hp) (E : XK), Room j (A.deeper (envOfC qual scope s.heap.objs.size f cdv)) → ∀ xs os r os', R xs os r os' → (∀ o ∈ os, o.free) →
      SDs (cxOf CX0 P w K mg base N qual scope f cdv A outer s H E).nox (env0 N xs os) body (kn0 os.length r os')) : FnR P w K mg base CX0 (j + 1) f (spF K (starR R)) := by
  obtain ⟨oc, od, dV, kV, doc, pm, an, cdv, ct, osl, rfl, lk, hcd, hdf, _⟩ := F.ex
  have hdV : dV = .none := by
    rcases hdf with ⟨_, e⟩ | ⟨e, _⟩
    · exact e
    · exact absurd rfl e
  subst hdV
  have G := StX.fn_star (P := P) (w := w) (mg := mg) (base := base) (k := j) (CX := CX0) (ps := [p1]) (pv := pv) (sp := spF K R) lk hcd sc StX.cxUp_none
    (StX.bind_star1 (B := fun l => bindArgs (PySem.W.fnOf x qual params body scope .none kV doc pm an cdv ct) ⟨l, []⟩) (p1 := p1) (pv := pv) (fun a => h0 kV doc pm an cdv ct a) (fun a r rs => h1 kV doc pm an cdv ct a r rs)) (fun A outer s H vs Q E hr h => ?_)
  · refine G.imp fun vs H Q E h => ?_
    obtain ⟨S, M, xs, os, rr, os', hS, hv, ho, hM, ⟨z, rest, ds, rfl, ha, hz, hR⟩, hf, k⟩ := h
    cases hv with
    | @cons v vs' _ _ rz rrest =>
      have ra := ha.rp rrest
      refine ⟨[v], vs', rfl, rfl, by rw [ra.length]; exact hz, fun p hp => ?_⟩
      have hSp : S p = none := hS.back hp
      have st : Step S M (upd S p (.tup vs')) M := ⟨.new hSp, [], by simp⟩
      refine ⟨upd S p (.tup vs'), M, [z, .d (.tup ds)], os, rr, os', hS.both, .cons (rz.mono st) (.cons (.d (.tup (SqT.of upd_same) (ra.mono st.s))) .nil), ⟨ho.len, fun n o e => ?_⟩, hM, hR, hf, fun S' H' v' g rp oa => k S' H' v' ⟨st.s.trans g.s, g.sh, fun a o e hm => g.h a o (by rw [upd_ne (ne_of_none e hp)]; exact e) hm, fun a e1 e2 => g.n a ?_ ?_⟩ rp oa⟩
      · obtain ⟨l, hu, e1, e2, e3, e4⟩ := ho.at_ n o e
        have ne : l ≠ p := ne_of_none e3 hp
        exact ⟨l, hu, e1, by rw [upd_ne ne]; exact e2, by rw [upd_ne ne]; exact e3, OR.mono (ad := []) ⟨st.s, [], by simp⟩ e4⟩
      · have ne : a ≠ p := fun q => e2 (q ▸ hp)
        rw [upd_ne ne]; exact e1
      · exact upd_some e2
  · obtain ⟨S, M, xs, os, rr, os', hS, hv, ho, hM, h5, hf, k⟩ := h
    obtain ⟨l1, l2, l3⟩ := hlen _ _ _ _ h5
    refine ⟨_, (hbody cdv A outer s H E hr xs os rr os' h5 hf).nox, body_read hS hv ho hM ?_ l3 l2 k⟩
    have := congrArg List.length sc.pre
    rw [List.length_take] at this
    simp at this
    omega
end
/-! ### in, not in; index; slices; sorted -/
section
variable {X : Cx} {ρ ρ' ρ1 ρ2 ρ3 : Env} {e a b c fe : Expr} {es : List Expr} {x y z : VD} {xs ys : List VD} {pos pp apos spos : Pos} {ds dt : List D} {n m : Str} {R : FSpec} {C : Addr} {ns : List Str} {u : D}
theorem inV_ints {i : Int} : ∀ {l : List Int}, inV (.int i) (l.map V.int) = decide (i ∈ l)
  | [] => by simp [inV]
  | j :: l => by
    have ih := inV_ints (i := i) (l := l)
    unfold inV at ih ⊢
    rw [List.map_cons, List.any_cons, ih]
    by_cases h : j = i
    · subst h; simp [eqV]
    · have h' : ¬ i = j := fun z => h z.symm
      simp [eqV, h, h']
theorem flat_ints (l : List Int) : (l.map V.int).all flatV = true := by
  rw [List.all_map]; simp [List.all_eq_true, flatV]
/-- i in xs, i not in xs: a list or tuple of ints -/
theorem ed_inI {neg : Bool} {op : CmpOp} {i : Int} {l : List Int} (ho : OpR X (compareOp op) (rIn X.K neg)) (ha : ED X ρ a (.d (.int i)) ρ1) (hb : ED X ρ1 b (.d u) ρ2) (hu : u.seq? = some (l.map D.int)) (hm : behindInMarks op b = false) :
    ED X ρ (.Compare a [op] [b] pos) (.d (.bl (if neg then !decide (i ∈ l) else decide (i ∈ l)))) ρ2 :=
  ed_of (pe_cmpR ho ha hb hm) fun σ H Q hk => two_ σ H Q _ hk fun fr S ad S1 H1 ad1 v1 v2 A st r1 r2 kk => by
    obtain ⟨p, vs, e1, e2, e3⟩ := r2.dd.seq hu
    have e4 := e3.ints
    subst e4
    refine ⟨p, _, e1, e2.imp (ex_l A.grow.sh) (ex_t A.grow.sh), by rw [r1.di]; rfl, flat_ints l, ?_⟩
    rw [r1.di, inV_ints]
    exact kk S1 H1 ad1 _ (.refl _ _) A (.d (.bl _))
theorem td_inI {neg : Bool} {op : CmpOp} {i : Int} {l : List Int} (ho : OpR X (compareOp op) (rIn X.K neg)) (ha : ED X ρ a (.d (.int i)) ρ1) (hb : ED X ρ1 b (.d u) ρ2) (hu : u.seq? = some (l.map D.int)) (hm : behindInMarks op b = false) :
    TD X ρ (.Compare a [op] [b] pos) (if neg then !decide (i ∈ l) else decide (i ∈ l)) ρ2 :=
  td_of (pt_cmpR ho ha hb hm) fun σ H Q hk => td_two σ H Q _ hk fun fr S ad S1 H1 ad1 v1 v2 A st r1 r2 Q' kk => by
    obtain ⟨p, vs, e1, e2, e3⟩ := r2.dd.seq hu
    have e4 := e3.ints
    subst e4
    refine ⟨p, _, e1, e2.imp (ex_l A.grow.sh) (ex_t A.grow.sh), by rw [r1.di]; rfl, flat_ints l, ?_⟩
    rw [r1.di, inV_ints]
    exact kk S1 H1 ad1 (.refl _ _) A
theorem ed_in {i : Int} {l : List Int} (ha : ED X ρ a (.d (.int i)) ρ1) (hb : ED X ρ1 b (.d u) ρ2) (hu : u.seq? = some (l.map D.int)) (hm : behindInMarks .In b = false := by rfl) : ED X ρ (.Compare a [.In] [b] pos) (.d (.bl (decide (i ∈ l)))) ρ2 := ed_inI op_in_seq ha hb hu hm
theorem ed_nin {i : Int} {l : List Int} (ha : ED X ρ a (.d (.int i)) ρ1) (hb : ED X ρ1 b (.d u) ρ2) (hu : u.seq? = some (l.map D.int)) (hm : behindInMarks .NotIn b = false := by rfl) : ED X ρ (.Compare a [.NotIn] [b] pos) (.d (.bl (!decide (i ∈ l)))) ρ2 := ed_inI op_notIn_seq ha hb hu hm
theorem td_in {i : Int} {l : List Int} (ha : ED X ρ a (.d (.int i)) ρ1) (hb : ED X ρ1 b (.d u) ρ2) (hu : u.seq? = some (l.map D.int)) (hm : behindInMarks .In b = false := by rfl) : TD X ρ (.Compare a [.In] [b] pos) (decide (i ∈ l)) ρ2 := td_inI op_in_seq ha hb hu hm
theorem td_nin {i : Int} {l : List Int} (ha : ED X ρ a (.d (.int i)) ρ1) (hb : ED X ρ1 b (.d u) ρ2) (hu : u.seq? = some (l.map D.int)) (hm : behindInMarks .NotIn b = false := by rfl) : TD X ρ (.Compare a [.NotIn] [b] pos) (!decide (i ∈ l)) ρ2 := td_inI op_notIn_seq ha hb hu hm
/-- xs[lo:hi] of a list -/
def cutD (ds : List D) (lo hi : Option Int) : List D := (ds.drop (HT.sIx ds.length 0 lo)).take (HT.sIx ds.length ds.length hi - HT.sIx ds.length 0 lo)
theorem cutD_ok {K : PySem.W.Frag} {S : Hp} {vs : List V} (h : RpAll K S vs ds) (lo hi : Option Int) : RpAll K S (cutV vs lo hi) (cutD ds lo hi) := by
  unfold cutV cutD
  rw [h.length]
  exact (h.drop _).take _
/-- a part of a slice -/
def PD (X : Cx) (ρ : Env) (e : Option Expr) (o : Option Int) (ρ' : Env) : Prop := PO X e (fun σ H Q => ∃ fr S ad, Rel X.K fr ρ σ S H ad ∧ ∀ S' H' ad', Step S ad S' ad' → Rel X.K fr ρ' σ S' H' ad' → Q o H')
theorem pd_none : PD X ρ none none ρ := ⟨fun pins s σ H Q I ⟨fr, S, ad, A, k⟩ => po_none.run pins s σ H Q I (k S H ad (.refl _ _) A)⟩
theorem pd_some {i : Int} (h : ED X ρ e (.d (.int i)) ρ1) : PD X ρ (some e) (some i) ρ1 := ⟨fun pins s σ H Q I ⟨fr, S, ad, A, k⟩ => (po_some h).run pins s σ H Q I ⟨fr, S, ad, A, fun S1 H1 ad1 v st1 A1 r1 => ⟨i, r1.di, k S1 H1 ad1 st1 A1⟩⟩⟩
theorem ed_slice {lo hi : Option Expr} {i j : Option Int} {p2 : Pos} (ha : ED X ρ a (.d (.lst ds)) ρ1) (hl : PD X ρ1 lo i ρ2) (hh : PD X ρ2 hi j ρ3) : ED X ρ (.Subscript a (.Slice lo hi none p2) pos) (.d (.lst (cutD ds i j))) ρ3 :=
  ed_of (pe_slice sl_list ha hl hh) fun σ H Q ⟨fr, S, ad, A, kk⟩ => ⟨fr, S, ad, A, fun S1 H1 ad1 v st1 A1 r1 => ⟨fr, S1, ad1, A1, fun S2 H2 ad2 st2 A2 => ⟨fr, S2, ad2, A2, fun S3 H3 ad3 st3 A3 => by
    obtain ⟨l, vs, e1, e2, e3⟩ := (r1.mono (st2.trans st3)).dd.lst_inv
    refine ⟨l, vs, e1, ex_l A3.grow.sh e2, fun p hp => ?_⟩
    obtain ⟨A4, st4⟩ := A3.newS (o := .lst (cutV vs i j)) hp
    exact kk _ _ ad3 _ (((st1.trans st2).trans st3).trans st4) A4 (.d (.lst (SqL.of upd_same) ((cutD_ok e3 i j).mono st4.s)))⟩⟩⟩
/-- xs[::-1] of a list -/
theorem ed_revL {k1 : Nat} {q1 q2 q3 : Pos} (ha : ED X ρ a (.d (.lst ds)) ρ1) : ED X ρ (.Subscript a (.Slice none none (some (.UnaryOp .USub (.Constant (.int 1) k1 q1) q2)) q3) pos) (.d (.lst ds.reverse)) ρ1 :=
  ed_of (pe_revL ha) fun σ H Q ⟨fr, S, ad, A, kk⟩ => ⟨fr, S, ad, A, fun S1 H1 ad1 v st1 A1 r1 => by
    obtain ⟨l, vs, e1, e2, e3⟩ := r1.dd.lst_inv
    refine ⟨l, vs, e1, ex_l A1.grow.sh e2, fun p hp => ?_⟩
    obtain ⟨A2, st2⟩ := A1.newS (o := .lst vs.reverse) hp
    exact kk _ _ ad1 _ (st1.trans st2) A2 (.d (.lst (SqL.of upd_same) (e3.reverse.mono st2.s)))⟩
/-- sorted(ints) -/
theorem cb_sorted {l : List Int} {l' : List Int} (hu : u.seq? = some (l.map D.int)) (hu2 : ∃ dd, u = .lst dd) (h : ∀ k : List Int, k.Perm l → k.Pairwise (· ≤ ·) → k = l') : CBR X (.builtin "sorted") ρ [.d u] (.d (.lst (l'.map D.int))) ρ := by
  obtain ⟨dd, rfl⟩ := hu2
  cases hu
  refine ⟨_, cr_sortedI, fun fr σ S H ad vs Q A r0 k => ?_⟩
  obtain ⟨v, rfl, r⟩ := rv1 r0
  obtain ⟨p, ys, e1, e2, e3⟩ := r.dd.lst_inv
  have e4 := e3.ints
  subst e4
  refine ⟨p, l, by rw [e1], ex_l A.grow.sh e2, fun k' q hp hs hq => ?_⟩
  have := h k' hp hs
  subst this
  obtain ⟨A2, st2⟩ := A.newS (o := .lst (k'.map V.int)) hq
  exact k _ _ ad _ st2 A2 (.d (.lst (SqL.of upd_same) (.of_ints k')))
end
end DL

namespace DL
open PySem PySem.Spec PyProof.Rows L2
theorem allD1 {a : D} : AllD [.d a] [a] := .cons .nil
theorem allD2 {a b : D} : AllD [.d a, .d b] [a, b] := .cons allD1
theorem allD3 {a b c : D} : AllD [.d a, .d b, .d c] [a, b, c] := .cons allD2
theorem allD4 {a b c d : D} : AllD [.d a, .d b, .d c, .d d] [a, b, c, d] := .cons allD3
theorem allD5 {a b c d e : D} : AllD [.d a, .d b, .d c, .d d, .d e] [a, b, c, d, e] := .cons allD4
theorem allD6 {a b c d e f : D} : AllD [.d a, .d b, .d c, .d d, .d e, .d f] [a, b, c, d, e, f] := .cons allD5
/-! ### isinstance against a built-in class, by kinds -/
inductive Kd | non | bl | int | str | byt | lst | tup | dic
def D.kd : D → Option Kd
  | .non => some .non | .bl _ => some .bl | .int _ => some .int | .str _ => some .str | .byt _ => some .byt | .lst _ => some .lst | .tup _ => some .tup | .dic _ _ => some .dic
  | _ => none
def Kd.nm : Kd → String
  | .non => "NoneType" | .bl => "bool" | .int => "int" | .str => "str" | .byt => "bytes" | .lst => "list" | .tup => "tuple" | .dic => "dict"
theorem kd_tyn {d : D} {k : Kd} (h : d.kd = some k) : d.tyn = some k.nm := by
  cases d <;> cases h <;> rfl
def Kd.isInt : Kd → Bool | .int => true | .bl => true | _ => false
def Kd.isBool : Kd → Bool | .bl => true | _ => false
def Kd.isStr : Kd → Bool | .str => true | _ => false
def Kd.isTup : Kd → Bool | .tup => true | _ => false
def Kd.isLst : Kd → Bool | .lst => true | _ => false
theorem kit_int : ∀ k : Kd, kitB k.nm "int" = some k.isInt := by intro k; cases k <;> decide +kernel
theorem kit_bool : ∀ k : Kd, kitB k.nm "bool" = some k.isBool := by intro k; cases k <;> decide +kernel
theorem kit_str : ∀ k : Kd, kitB k.nm "str" = some k.isStr := by intro k; cases k <;> decide +kernel
theorem kit_tup : ∀ k : Kd, kitB k.nm "tuple" = some k.isTup := by intro k; cases k <;> decide +kernel
theorem kit_lst : ∀ k : Kd, kitB k.nm "list" = some k.isLst := by intro k; cases k <;> decide +kernel
section
variable {X : Cx} {ρ : Env} {d : D} {k : Kd}
theorem cb_isInt (h : d.kd = some k) : CBR X (.builtin "isinstance") ρ [.d d, .d (.ty "int")] (.d (.bl k.isInt)) ρ := cb_isi (kd_tyn h) (kit_int k)
theorem cb_isBool (h : d.kd = some k) : CBR X (.builtin "isinstance") ρ [.d d, .d (.ty "bool")] (.d (.bl k.isBool)) ρ := cb_isi (kd_tyn h) (kit_bool k)
theorem cb_isStr (h : d.kd = some k) : CBR X (.builtin "isinstance") ρ [.d d, .d (.ty "str")] (.d (.bl k.isStr)) ρ := cb_isi (kd_tyn h) (kit_str k)
theorem cb_isTup (h : d.kd = some k) : CBR X (.builtin "isinstance") ρ [.d d, .d (.ty "tuple")] (.d (.bl k.isTup)) ρ := cb_isi (kd_tyn h) (kit_tup k)
theorem cb_isLst (h : d.kd = some k) : CBR X (.builtin "isinstance") ρ [.d d, .d (.ty "list")] (.d (.bl k.isLst)) ρ := cb_isi (kd_tyn h) (kit_lst k)
end
end DL

namespace DL
open PySem PySem.Spec PyProof.Rows L2 HT
/-! ### t[::-1] of a tuple -/
section
variable {prog : Program} {w : World} {A : Around} {E : Value → Shared → Prop} {s : Shared}
theorem sliceApplied_rev {sl : Addr} {t : Tok} {n : Nat} {Q : Int × Int × Nat → Shared → Prop} (hs : s.heap.IsSliceOf sl .none .none (.int (-1) t))
    (h : Q ((n : Int) - 1, -1, n) s) : wpAny (model prog w) A (Builtin.Slice.sliceApplied (.ref sl) (pure (n : Int))) Q E s := by
  obtain ⟨os, hos, hcs, hds⟩ := id hs
  unfold Builtin.Slice.sliceApplied Builtin.Slice.sliceFields
  refine wpAny_bind (wpAny_bind (wpAny_field hos hds (x := .none) rfl (wpAny_bind (wpAny_field hos hds (x := .none) rfl (wpAny_bind (wpAny_field hos hds (x := .int (-1) t) rfl (wpAny_pure ?_)))))))
  refine wpAny_bind (slicePart_ (.int (-1) t) ?_)
  show wpAny _ _ (if ((-1 : Int) == 0) = true then _ else _) _ _ s
  rw [if_neg (by decide)]
  refine wpAny_bind (slicePart_ .none (wpAny_bind (slicePart_ .none (wpAny_bind (wpAny_pure ?_)))))
  show wpAny _ _ (match Builtin.Slice.sliceAdjust none none (-1) (n : Int) with | (lo, hi) => pure (lo, (-1 : Int), Builtin.Slice.slicePlaces lo hi (-1))) _ _ s
  have e1 : Builtin.Slice.sliceAdjust none none (-1) (n : Int) = ((n : Int) - 1, -1) := by
    unfold Builtin.Slice.sliceAdjust; simp
  rw [e1]
  show wpAny _ _ (pure ((n : Int) - 1, (-1 : Int), Builtin.Slice.slicePlaces ((n : Int) - 1) (-1) (-1))) _ _ s
  have e2 : Builtin.Slice.slicePlaces ((n : Int) - 1) (-1) (-1) = n := by
    unfold Builtin.Slice.slicePlaces
    rw [if_neg (by decide)]
    by_cases h0 : (n : Int) - 1 > -1
    · rw [if_pos h0, show (- -1 : Int) = 1 by decide, Int.ediv_one]; omega
    · rw [if_neg h0]; omega
  rw [e2]
  exact wpAny_pure h
theorem pick_rev (xs : Array Value) : ((List.range xs.size).filterMap fun (m : Nat) => xs[(((xs.size : Int) - 1) + (m : Int) * (-1)).toNat]?).toArray = xs.toList.reverse.toArray := by
  have e : ((List.range xs.size).filterMap fun (m : Nat) => xs[(((xs.size : Int) - 1) + (m : Int) * (-1)).toNat]?) = ((List.range xs.size).map (fun k => xs.size - 1 - k)).filterMap (xs[·]?) := by
    rw [List.filterMap_map]
    have aux : ∀ l : List Nat, (∀ m ∈ l, m < xs.size) → (l.filterMap fun (m : Nat) => xs[(((xs.size : Int) - 1) + (m : Int) * (-1)).toNat]?) = l.filterMap ((fun x => xs[x]?) ∘ fun k => xs.size - 1 - k) := by
      intro l
      induction l with
      | nil => intro _; rfl
      | cons m l ih =>
        intro hl
        have hm := hl m (by simp)
        have e2 : (((xs.size : Int) - 1) + (m : Int) * (-1)).toNat = xs.size - 1 - m := by omega
        rw [List.filterMap_cons, List.filterMap_cons, ih (fun z hz => hl z (by simp [hz])), e2]; rfl
    exact aux _ fun m hm => List.mem_range.mp hm
  rw [e, PySem.W.krv_range, List.filterMap_reverse, PySem.W.krv_all]
theorem getItem_tuple_rev {t sl : Addr} {items : Array Value} {tk : Tok} {Q : Value → Shared → Prop} (ht : IsTup s.heap t items) (hs : s.heap.IsSliceOf sl .none .none (.int (-1) tk))
    (h : Q (.ref s.heap.objs.size) { s with heap := s.heap.push { cls := .type "tuple", data := .seq items.toList.reverse.toArray } })
    (hsz : items.size ≤ sizeLine) : wpAny (model prog w) A (getItem (.ref t) (.ref sl)) Q E s := by
  have htake : sizeOk (.seq items.toList.reverse.toArray) := by
    show items.toList.reverse.toArray.size ≤ sizeLine
    rw [List.size_toArray, List.length_reverse, Array.length_toList]; exact hsz
  obtain ⟨os, hos, hcs, hds⟩ := id hs
  have hTs : s.TypeIs (.ref sl) "slice" := ⟨os, hos, hcs⟩
  unfold getItem
  try with_reducible refine wpAny_holding ?_
  first | refine wpAny_bind (wpAny_pure ?_) | skip
  refine wpAny_bind (wpAny_sequenceKey ht.typeIs (by decide) ?_)
  refine wpAny_bind (wpAny_callSpecial?_slot (name := Str.ofString "__getitem__") ht.typeIs PyProof.Rows.slot_tuple_getitem
    (wpAny_call_entry PyProof.Rows.slot_tuple_getitem ht.typeIs entry_tuple_getitem ?_ (args_tuple_getitem _ _)))
  show wpAny _ _ (Builtin.Tuple.tupleItemsOf (.ref t) >>= _) _ _ s
  refine wpAny_bind (tupleItemsOf_ ht ?_)
  refine wpAny_bind (wpAny_typeOf hTs ?_)
  rw [if_pos (by decide)]
  refine wpAny_bind (sliceApplied_rev hs ?_)
  have hno : ¬ ((((items.size : Int) - 1) == 0 && (-1 : Int) == 1 && items.size == items.size) = true) := by simp
  show wpAny _ _ (if (((items.size : Int) - 1) == 0 && (-1 : Int) == 1 && items.size == items.size) = true then _ else _) _ _ s
  rw [if_neg hno, pick_rev]
  first
    | exact wpAny_bind (m := Builtin.Tuple.tupleExact _) (wpAny_newObj_type (wpAny_pure ⟨_, rfl, wpAny_pure h⟩) htake)
    | exact wpAny_bind (m := Builtin.Tuple.tupleExact _) (wpAny_newObj_type (wpAny_bind (wpAny_pure (wpAny_pure ⟨_, rfl, wpAny_pure h⟩))) htake)
    | exact wpAny_bind (wpAny_bind (m := Builtin.Tuple.tupleExact _) (wpAny_newObj_type (wpAny_pure (wpAny_pure ⟨_, rfl, wpAny_pure h⟩)) htake))
    | exact wpAny_bind (wpAny_bind (m := Builtin.Tuple.tupleExact _) (wpAny_newObj_type (wpAny_pure ⟨_, rfl, wpAny_pure h⟩) htake))
end
section
variable {X : Cx} {ρ ρ' ρ1 ρ2 ρ3 : Env} {e a b c tg iter elt : Expr} {es rest ifs : List Expr} {x y z : VD} {pos : Pos} {p q : Bool} {st : Stmt} {r body orelse : List Stmt} {k : Kn} {ds ds' : List D} {u u' d d' : D}
def tRevT (K : PySem.W.Frag) (te : TE) : TE := fun σ H Q => te σ H fun v H1 => ∃ a xs, v = .ref a ∧ SqT K H1 a xs ∧ ∀ p, H1 p = none → Q (.ref p) (upd H1 p (.tup xs.reverse))
theorem pe_revT {e : Expr} {te : TE} {k : Nat} {p1 p2 p3 pos : Pos} (he : PE X e te) : PE X (.Subscript e (.Slice none none (some (.UnaryOp .USub (.Constant (.int 1) k p1) p2)) p3) pos) (tRevT X.K te) := by
  refine ⟨fun pins s σ H Q I h => ?_⟩
  refine Subscript_ (thn (he.run pins s σ H _ I h) fun v s1 ⟨x, H1, I1, r1, q1⟩ => ?_)
  obtain ⟨a, xs, ex, hx, q⟩ := q1
  subst ex
  cases r1
  have hst : PO X (some (.UnaryOp .USub (.Constant (.int 1) k p1) p2)) (tPart (tUn (rU fun i => .int (-i)) (tC (.int 1)))) := po_some (pe_un un_neg pe_int)
  refine wpAny_Slice (thn (po_none.run pins s1 σ H1 (fun o H2 => o = none ∧ H2 = H1) I1 ⟨rfl, rfl⟩) fun vl s2 ⟨l, H2, I2, pl, el, e2⟩ => ?_)
  subst el e2
  refine thn (po_none.run pins s2 σ H2 (fun o H3 => o = none ∧ H3 = H2) I2 ⟨rfl, rfl⟩) fun vu s3 ⟨u, H3, I3, pu, eu, e3⟩ => ?_
  subst eu e3
  refine thn (hst.run pins s3 σ H3 (fun o H4 => o = some (-1) ∧ H4 = H3) I3 ⟨1, rfl, -1, rfl, rfl, rfl⟩) fun vs s4 ⟨o, H4, I4, ps, eo, e4⟩ => ?_
  subst eo e4
  cases pl
  cases pu
  cases ps with
  | int _ tk =>
  have I5 : Inv X pins σ H4 { s4 with heap := s4.heap.push { cls := .type "slice", data := .fields #[.none, .none, .int (-1) tk] } } := I4.kept (t' := s4.toks) fun b ob q => Heap.get?_push_of_some _ q
  obtain ⟨its, r, ht, hz⟩ := I5.tuple hx
  have hlen := r.length
  show wpAny (model X.prog X.w) X.A (subscriptTail e (.Slice none none (some (.UnaryOp .USub (.Constant (.int 1) k p1) p2)) p3) (.ref a) (.ref s4.heap.objs.size)) (EP X pins σ Q) X.xe { s4 with heap := s4.heap.push { cls := .type "slice", data := .fields #[.none, .none, .int (-1) tk] } }
  refine tail_any (ops := [.ref a, .ref s4.heap.objs.size]) ht.typeIs (PyProof.Rows.slot_tuple_getitem.lookup) ?_ (by with_unfolding_all rfl)
  refine getItem_tuple_rev ht (Heap.IsSliceOf.new _ .none .none (.int (-1) tk)) ?_ (by rw [List.size_toArray]; omega)
  refine ⟨.ref _, _, I5.laid (t' := s4.toks) (o := .tup xs.reverse) (fun b ob q => Heap.get?_push_of_some _ q) (Nat.le_refl _) ?_, rfl, q _ (I5.hok.fresh (Nat.le_refl _))⟩
  exact ⟨by rw [List.length_reverse]; exact hz, _, r.reverse, IsTup.new _ _⟩
theorem ed_revT {k1 : Nat} {q1 q2 q3 : Pos} (ha : ED X ρ a (.d (.tup ds)) ρ1) : ED X ρ (.Subscript a (.Slice none none (some (.UnaryOp .USub (.Constant (.int 1) k1 q1) q2)) q3) pos) (.d (.tup ds.reverse)) ρ1 :=
  ed_of (pe_revT ha) fun σ H Q ⟨fr, S, ad, A, kk⟩ => ⟨fr, S, ad, A, fun S1 H1 ad1 v st1 A1 r1 => by
    obtain ⟨l, vs, e1, e2, e3⟩ := r1.dd.tup_inv
    refine ⟨l, vs, e1, ex_t A1.grow.sh e2, fun p hp => ?_⟩
    obtain ⟨A2, st2⟩ := A1.newS (o := .tup vs.reverse) hp
    exact kk _ _ ad1 _ (st1.trans st2) A2 (.d (.tup (SqT.of upd_same) (e3.reverse.mono st2.s)))⟩
/-- t + t' -/
theorem ed_catT (ha : ED X ρ a (.d (.tup ds)) ρ1) (hb : ED X ρ1 b (.d (.tup ds')) ρ2) (hz : ds.length + ds'.length ≤ sizeLine) : ED X ρ (.BinOp a .Add b pos) (.d (.tup (ds ++ ds'))) ρ2 :=
  ed_of (pe_op op_catA ha hb) fun σ H Q hk => two_ σ H Q _ hk fun fr S ad S1 H1 ad1 v1 v2 A st r1 r2 kk => by
    obtain ⟨l1, vs1, e1, e2, e3⟩ := r1.dd.tup_inv
    obtain ⟨l2, vs2, f1, f2, f3⟩ := r2.dd.tup_inv
    have n1 := e3.length
    have n2 := f3.length
    refine ⟨l1, l2, vs1, vs2, e1, f1, ex_t A.grow.sh e2, ex_t A.grow.sh f2, by omega, fun z => ?_, fun _ z => ?_, fun _ _ p hp => ?_⟩
    · subst z
      cases e3
      exact kk S1 H1 ad1 _ (.refl _ _) A (by rw [← f1]; exact r2)
    · subst z
      cases f3
      exact kk S1 H1 ad1 _ (.refl _ _) A (by rw [← e1, List.append_nil]; exact r1)
    · obtain ⟨A2, st2⟩ := A.newS (o := .tup (vs1 ++ vs2)) hp
      exact kk _ _ ad1 _ st2 A2 (.d (.tup (SqT.of upd_same) ((e3.append f3).mono st2.s)))
/-- a tuple constant of the module -/
theorem ed_gtup {n : Str} {i : Addr} {vs : List V} (hm : X.mg n = some (.ref i)) (ht : ∀ H, SqT X.K H i vs) (hd : ∀ S, RpAll X.K S vs ds) (hg : Gl X n) (hdb : (n == ("__debug__" : Str)) = false := by decide) : ED X ρ (.Name n pos) (.d (.tup ds)) ρ :=
  ed_of (ed_gref (ρ := ρ) hm hg hdb) fun σ H Q ⟨fr, S, ad, A, kk⟩ => ⟨fr, S, ad, A, fun S1 H1 ad1 v st A1 r => kk S1 H1 ad1 v st A1 (by
    cases r with
    | d h =>
      cases h
      exact .d (.tup (ht S1) (hd S1)))⟩
def strsIn (z : Str) (l : List Str) : Bool := l.any fun y => y == z
theorem td_ninS {z : Str} {l : List Str} (ha : ED X ρ a (.d (.str z)) ρ1) (hb : ED X ρ1 b (.d u) ρ2) (hu : u.seq? = some (l.map D.str)) (hm : behindInMarks .NotIn b = false := by rfl) :
    TD X ρ (.Compare a [.NotIn] [b] pos) (!strsIn z l) ρ2 :=
  td_of (pt_cmpR op_notIn_seq ha hb hm) fun σ H Q hk => td_two σ H Q _ hk fun fr S ad S1 H1 ad1 v1 v2 A st r1 r2 Q' kk => by
    obtain ⟨p, vs, e1, e2, e3⟩ := r2.dd.seq hu
    have e4 : ∀ {l : List Str} {vs : List V}, RpAll X.K S1 vs (l.map D.str) → vs = l.map V.str := by
      intro l
      induction l with
      | nil => intro vs h; cases h; rfl
      | cons n ns ih =>
        intro vs h
        cases h with
        | cons a b => cases a; rw [ih b]; rfl
    have e5 := e4 e3
    subst e5
    refine ⟨p, _, e1, e2.imp (ex_l A.grow.sh) (ex_t A.grow.sh), by rw [r1.ds]; rfl, by rw [List.all_map]; simp [List.all_eq_true, flatV], ?_⟩
    have e6 : inV (.str z) (l.map V.str) = strsIn z l := by unfold inV strsIn; rw [List.any_map]; rfl
    rw [r1.ds, e6]
    exact kk S1 H1 ad1 (.refl _ _) A
/-! ### comprehensions that change nothing -/
def LcP (X : Cx) (scope : Scope) (gv vs : List Nat) (ρ1 : Env) (tg elt : Expr) (ifs : List Expr) (d : D) (o : Option D) : Prop :=
  ∃ ρ2 : Env, Blk X scope (fun Y => GD Y gv ⟨ρ1.m, wpE ρ1.sl vs, ρ1.ow⟩ tg (.d d) ρ2) ∧ ρ2.m = ρ1.m ∧ ρ2.ow = ρ1.ow ∧
    Blk X scope (fun Y => TDs Y ρ2 ifs o.isSome ρ2) ∧ ∀ e, o = some e → Blk X scope (fun Y => ED Y ρ2 elt (.d e) ρ2)
theorem lcP_turn {scope : Scope} {gv vs : List Nat} {o : Option D} {acc : List D} {ow : List (Option OD)} {J : List D → List (Option OD) → Prop} (h : LcP X scope gv vs ρ1 tg elt ifs d o) (how : ow = ρ1.ow) (hJ : J (acc ++ o.toList) ρ1.ow) : LcTurn X scope gv vs ρ1 tg elt ifs J d acc ow := by
  obtain ⟨⟨m2, sl2, ow2⟩, h1, hm, hw, h2, h3⟩ := h
  subst how
  cases hm
  cases hw
  refine ⟨sl2, o.isSome, ρ1.ow, h1, h2, fun hp => ?_, fun hp => ?_⟩
  · cases o with
    | none => cases hp
    | some e => exact ⟨e, ρ1.ow, h3 e rfl, hJ⟩
  · cases o with
    | none => simpa using hJ
    | some e => cases hp
theorem ed_lcP {α : Type} {xs : List α} {f : α → D} {gv : List Nat} {scope : Scope} {own : List (Str × Nat)} (hi : ItD X ρ tg iter (xs.map f) ρ1) (o : α → Option D)
    (hs : ∀ a, a ∈ xs → LcP X scope gv (own.map (·.2)) ρ1 tg elt ifs (f a) (o a)) (hz : xs.length ≤ sizeLine)
    (hgv : ∀ j ∈ gv, j ∈ own.map (·.2)) (ok : BlkOk X.N X.env.scope scope own) (hN : X.N.Nodup) (hc : X.calm = true) (hfs : ∀ x, foldedSetIterable iter X.env x = pure x) :
    ED X ρ (.ListComp elt [⟨tg, iter, ifs, 0⟩] scope pos) (.d (.lst (xs.filterMap o))) ρ1 := by
  have := ed_lcG (vs := []) (pos := pos) (elt := elt) (ifs := ifs) (gv := gv) hi (fun i acc ow => acc = (xs.take i).filterMap o ∧ ow = ρ1.ow) ⟨by simp, rfl⟩ (fun i d acc ow hd ⟨e1, e2⟩ => by
    rw [List.getElem?_map] at hd
    cases q : xs[i]? with
    | none => rw [q] at hd; cases hd
    | some a =>
      rw [q] at hd
      cases hd
      refine lcP_turn (hs a (List.mem_of_getElem? q)) e2 ⟨?_, rfl⟩
      rw [e1]
      have e3 : xs.take (i + 1) = xs.take i ++ [a] := by rw [List.take_add_one, q]; rfl
      rw [e3, List.filterMap_append]
      congr 1) (by simpa using hz) (out := xs.filterMap o) (ow' := ρ1.ow) (fun acc ow ⟨e1, e2⟩ => ⟨by rw [e1, List.length_map, List.take_length], e2⟩)
    (fun i acc ow ⟨e1, _⟩ => by rw [e1]; exact Nat.le_trans (List.length_filterMap_le _ _) (by simp; omega)) hgv ok hN hc hfs
  exact this
theorem sds_lcP (i : Nat) {n : Str} {pos' spos : Pos} {α : Type} {xs : List α} {f : α → D} {gv : List Nat} {scope : Scope} {own : List (Str × Nat)} (hi : ItD X ρ tg iter (xs.map f) ρ1) (o : α → Option D)
    (hs : ∀ a, a ∈ xs → LcP X scope gv (own.map (·.2)) ρ1 tg elt ifs (f a) (o a)) (h : SDs X (Env.put ρ1 i (.d (.lst (xs.filterMap o)))) r k) (hz : xs.length ≤ sizeLine)
    (hgv : ∀ j ∈ gv, j ∈ own.map (·.2)) (ok : BlkOk X.N X.env.scope scope own) (hN : X.N.Nodup) (hc : X.calm = true)
    (hi' : X.N[i]? = some n) (hyl : X.env.scope.names.lookup n = some .local) (hsw : swapsWith (.ListComp elt [⟨tg, iter, ifs, 0⟩] scope pos) (some (.Name n pos')) spos.line X.env = pure true) (hfs : ∀ x, foldedSetIterable iter X.env x = pure x) :
    SDs X ρ (.Assign [.Name n pos'] (.ListComp elt [⟨tg, iter, ifs, 0⟩] scope pos) spos :: r) k := by
  refine sds_lcG (gv := gv) (vs := []) i hi (fun i acc ow => acc = (xs.take i).filterMap o ∧ ow = ρ1.ow) ⟨by simp, rfl⟩ (fun i d acc ow hd ⟨e1, e2⟩ => by
    rw [List.getElem?_map] at hd
    cases q : xs[i]? with
    | none => rw [q] at hd; cases hd
    | some a =>
      rw [q] at hd
      cases hd
      refine lcP_turn (hs a (List.mem_of_getElem? q)) e2 ⟨?_, rfl⟩
      rw [e1]
      have e3 : xs.take (i + 1) = xs.take i ++ [a] := by rw [List.take_add_one, q]; rfl
      rw [e3, List.filterMap_append]
      congr 1) (by simpa using hz) (out := xs.filterMap o) (ow' := ρ1.ow) (fun acc ow ⟨e1, e2⟩ => ⟨by rw [e1, List.length_map, List.take_length], e2⟩)
    (fun i acc ow ⟨e1, _⟩ => by rw [e1]; exact Nat.le_trans (List.length_filterMap_le _ _) (by simp; omega)) h hgv ok hN hc hi' hyl hsw hfs
end
end DL

namespace DL
open PySem PySem.Spec PyProof.Rows L2
section
variable {X : Cx} {ρ ρ' ρ1 ρ2 ρ3 : Env} {e a b c tg iter elt : Expr} {es rest ifs : List Expr} {x y z : VD} {pos : Pos} {p q : Bool} {st : Stmt} {r body orelse : List Stmt} {k : Kn} {ds ds' : List D} {u u' d d' : D}
theorem ItD.to (h : ItD X ρ tg iter ds ρ1) (e1 : ds = ds') : ItD X ρ tg iter ds' ρ1 := e1 ▸ h
theorem enumD_zip {α : Type} (f : α → D) : ∀ (l : List α) (n : Nat), enumD n (l.map f) = (l.zipIdx n).map fun p => D.tup [.int (p.2 : Nat), f p.1]
  | [], n => rfl
  | a :: l, n => by
    rw [List.map_cons, List.zipIdx_cons, List.map_cons, ← enumD_zip f l (n + 1)]
    rfl
theorem ED.lst {ds : List D} (h : ED X ρ e (.d (.lst ds)) ρ1) (e1 : ds = ds') : ED X ρ e (.d (.lst ds')) ρ1 := e1 ▸ h
/-- for name in .. -/
theorem lcP1 (i : Nat) {n : Str} {pp : Pos} {scope : Scope} {vs : List Nat} {o : Option D} (hN : X.N.Nodup) (hi : X.N[i]? = some n) (hx : scope.names.lookup n = some .local)
    (ht : Blk X scope (fun Y => TDs Y (Env.put ⟨ρ1.m, wpE ρ1.sl vs, ρ1.ow⟩ i (.d d)) ifs o.isSome (Env.put ⟨ρ1.m, wpE ρ1.sl vs, ρ1.ow⟩ i (.d d))))
    (he : ∀ e, o = some e → Blk X scope (fun Y => ED Y (Env.put ⟨ρ1.m, wpE ρ1.sl vs, ρ1.ow⟩ i (.d d)) elt (.d e) (Env.put ⟨ρ1.m, wpE ρ1.sl vs, ρ1.ow⟩ i (.d d)))) :
    LcP X scope [i] vs ρ1 (.Name n pp) elt ifs d o :=
  ⟨_, fun _ _ _ _ _ => gd_name i hN hi (.inl (lookup_relabel_local hx)) (.inr (lookup_relabel_local hx)), rfl, rfl, ht, he⟩
/-- for name, name in .. -/
theorem lcP2 (i j : Nat) {n m : Str} {kk : Nat} {p1 p2 pp : Pos} {scope : Scope} {vs : List Nat} {d1 d2 : D} {o : Option D} (hN : X.N.Nodup) (hc : X.calm = true) (hi : X.N[i]? = some n) (hj : X.N[j]? = some m) (hx : scope.names.lookup n = some .local) (hy : scope.names.lookup m = some .local)
    (ht : Blk X scope (fun Y => TDs Y (Env.put (Env.put ⟨ρ1.m, wpE ρ1.sl vs, ρ1.ow⟩ i (.d d1)) j (.d d2)) ifs o.isSome (Env.put (Env.put ⟨ρ1.m, wpE ρ1.sl vs, ρ1.ow⟩ i (.d d1)) j (.d d2))))
    (he : ∀ e, o = some e → Blk X scope (fun Y => ED Y (Env.put (Env.put ⟨ρ1.m, wpE ρ1.sl vs, ρ1.ow⟩ i (.d d1)) j (.d d2)) elt (.d e) (Env.put (Env.put ⟨ρ1.m, wpE ρ1.sl vs, ρ1.ow⟩ i (.d d1)) j (.d d2)))) :
    LcP X scope ([i] ++ ([j] ++ [])) vs ρ1 (.Tuple [.Name n p1, .Name m p2] kk pp) elt ifs (.tup [d1, d2]) o :=
  ⟨_, fun _ _ _ _ _ => gd_tup (xs := []) (ds := [d1, d2]) hc (gds_cons (gd_name i hN hi (.inl (lookup_relabel_local hx)) (.inr (lookup_relabel_local hx))) (gds_cons (gd_name j hN hj (.inl (lookup_relabel_local hy)) (.inr (lookup_relabel_local hy))) gds_nil rfl) rfl) rfl rfl rfl, rfl, rfl, ht, he⟩
end
end DL

namespace DL
open PySem PySem.Spec PyProof.Rows L2
section
variable {X : Cx} {ρ ρ' ρ1 ρ2 ρ3 : Env} {e a b c tg iter elt : Expr} {es rest ifs : List Expr} {x y z : VD} {pos apos cpos : Pos} {p q : Bool} {st : Stmt} {r body orelse : List Stmt} {k : Kn} {ds ds' : List D} {u u' d d' : D}
/-- xs.append(e), a list of ours -/
theorem ed_app {d : D} {o : Nat} (ha : ED X ρ a (.loc o) ρ1) (hb : ED X ρ1 b (.d d) ρ2) (hw : ρ2.ow[o]? = some (some (.lst ds))) (hw1 : ∃ ds', ρ1.ow[o]? = some (some (.lst ds'))) (hz : ds.length < sizeLine)
    (hbase : attributeBase a "append" X.env (eval a X.env) = eval a X.env)
    (hfew : ((backTo cpos (starEach [b] X.env)).all (fun x => !x.1) && (backToKw cpos (keywordEach [] X.env)).all (fun x => x.1.isSome)
      && decide ([b].length + ([] : List Keyword).length + (if ([] : List Keyword).isEmpty then 0 else 1) < 30)) = true)
    (hline : (apos.endLine == cpos.line) = true) (hs : starEach [b] X.env = (false, eval b X.env) :: starEach [] X.env) (hplain : (backTo cpos (starEach [] X.env)).any (·.1) = false) :
    ED X ρ (.Call (.Attribute a "append" apos) [b] [] cpos) (.d .non) { ρ2 with ow := ρ2.ow.set o (some (.lst (ds ++ [d]))) } :=
  ed_append ha hb hw hw1 hz hs (pe_bm PySem.F.plainAttrs_list PySem.F.slot_list_append PySem.F.type_list_append mt_append ha (pa_cons hb pa_nil hs) hbase hfew hline hs hplain)
end
end DL

namespace DL
open PySem PySem.Spec PyProof.Rows L2
/-! ### equality of data -/
mutual
def D.py : D → PyData
  | .non => .none
  | .bl b => .bool b
  | .int i => .int i
  | .str x => .str x
  | .lst ds => .list (pyAll ds)
  | .tup ds => .tuple (pyAll ds)
  | _ => .none
def pyAll : List D → List PyData
  | [] => []
  | d :: ds => d.py :: pyAll ds
end
mutual
/-- data of None, ints, texts, lists and tuples -/
def D.ok : D → Bool
  | .non => true
  | .int _ => true
  | .str x => PyData.strOk x
  | .lst ds => okAll ds
  | .tup ds => okAll ds
  | _ => false
def okAll : List D → Bool
  | [] => true
  | d :: ds => d.ok && okAll ds
end
mutual
def D.dep : D → Nat
  | .lst ds => depAll ds + 1
  | .tup ds => depAll ds + 1
  | _ => 0
def depAll : List D → Nat
  | [] => 0
  | d :: ds => max d.dep (depAll ds)
end
theorem depAll_le {k : Nat} : ∀ {ds : List D}, (∀ d ∈ ds, d.dep ≤ k) → depAll ds ≤ k
  | [], _ => by simp [depAll]
  | d :: ds, h => by
    have h1 := h d (by simp)
    have h2 := depAll_le (ds := ds) (k := k) fun x hx => h x (by simp [hx])
    simp only [depAll]; omega
theorem okAll_of : ∀ {ds : List D}, (∀ d ∈ ds, d.ok = true) → okAll ds = true
  | [], _ => rfl
  | d :: ds, h => by
    simp only [okAll, h d (by simp), okAll_of (ds := ds) fun x hx => h x (by simp [hx]), Bool.and_self]
mutual
theorem py_dep : ∀ d : D, d.py.depth ≤ d.dep
  | .non => by simp [D.py, PyData.depth]
  | .bl b => by simp [D.py, PyData.depth]
  | .int i => by simp [D.py, PyData.depth]
  | .str x => by simp [D.py, PyData.depth]
  | .byt x => by simp [D.py, PyData.depth]
  | .lst ds => by simp only [D.py, PyData.depth, D.dep]; have := pyAll_dep ds; omega
  | .tup ds => by simp only [D.py, PyData.depth, D.dep]; have := pyAll_dep ds; omega
  | .ins _ _ _ => by simp [D.py, PyData.depth]
  | .dic _ _ => by simp [D.py, PyData.depth]
  | .ref _ => by simp [D.py, PyData.depth]
  | .ty _ => by simp [D.py, PyData.depth]
theorem pyAll_dep : ∀ ds : List D, PyData.depthAll (pyAll ds) ≤ depAll ds
  | [] => by simp [pyAll, PyData.depthAll]
  | d :: ds => by
    simp only [pyAll, PyData.depthAll, depAll]
    have := py_dep d; have := pyAll_dep ds; omega
end
mutual
theorem py_lay : ∀ d : D, d.ok = true → d.py.canLay0 = true
  | .non, _ => rfl
  | .bl b, h => by simp [D.ok] at h
  | .int i, _ => rfl
  | .str x, h => by simp only [D.ok] at h; simp only [D.py, PyData.canLay0, h]
  | .byt x, h => by simp [D.ok] at h
  | .lst ds, h => by simp only [D.ok] at h; simp only [D.py, PyData.canLay0, pyAll_lay ds h]
  | .tup ds, h => by simp only [D.ok] at h; simp only [D.py, PyData.canLay0, pyAll_lay ds h]
  | .ins _ _ _, h => by simp [D.ok] at h
  | .dic _ _, h => by simp [D.ok] at h
  | .ref _, h => by simp [D.ok] at h
  | .ty _, h => by simp [D.ok] at h
theorem pyAll_lay : ∀ ds : List D, okAll ds = true → PyData.canLayAll0 (pyAll ds) = true
  | [], _ => rfl
  | d :: ds, h => by
    simp only [okAll, Bool.and_eq_true] at h
    simp only [pyAll, PyData.canLayAll0, py_lay d h.1, pyAll_lay ds h.2, Bool.and_self]
end
theorem py_shaped {d : D} (h : d.ok = true) (hd : d.dep ≤ 64) : SeqAt.shaped d.py = true := by
  unfold SeqAt.shaped
  have := py_dep d
  rw [py_lay d h, Bool.true_and]
  exact decide_eq_true (by omega)
mutual
theorem py_eq : ∀ (d e : D), d.ok = true → e.ok = true → (PyData.eqv d.py e.py = true ↔ d = e)
  | .non, e, _, h => by cases e <;> simp_all [D.ok, D.py, PyData.eqv]
  | .int i, e, _, h => by cases e <;> simp_all [D.ok, D.py, PyData.eqv]
  | .str x, e, _, h => by cases e <;> simp_all [D.ok, D.py, PyData.eqv]
  | .lst ds, .lst es, h, h' => by
    simp only [D.ok] at h h'
    simp only [D.py, PyData.eqv, pyAll_eq ds es h h', D.lst.injEq]
  | .tup ds, .tup es, h, h' => by
    simp only [D.ok] at h h'
    simp only [D.py, PyData.eqv, pyAll_eq ds es h h', D.tup.injEq]
  | .lst ds, .non, _, _ => by simp [D.py, PyData.eqv]
  | .lst ds, .int _, _, _ => by simp [D.py, PyData.eqv]
  | .lst ds, .str _, _, _ => by simp [D.py, PyData.eqv]
  | .lst ds, .tup _, _, _ => by simp [D.py, PyData.eqv]
  | .tup ds, .non, _, _ => by simp [D.py, PyData.eqv]
  | .tup ds, .int _, _, _ => by simp [D.py, PyData.eqv]
  | .tup ds, .str _, _, _ => by simp [D.py, PyData.eqv]
  | .tup ds, .lst _, _, _ => by simp [D.py, PyData.eqv]
theorem pyAll_eq : ∀ (ds es : List D), okAll ds = true → okAll es = true → (PyData.eqvAll (pyAll ds) (pyAll es) = true ↔ ds = es)
  | [], [], _, _ => by simp [pyAll, PyData.eqvAll]
  | [], _ :: _, _, _ => by simp [pyAll, PyData.eqvAll]
  | _ :: _, [], _, _ => by simp [pyAll, PyData.eqvAll]
  | d :: ds, e :: es, h, h' => by
    simp only [okAll, Bool.and_eq_true] at h h'
    simp only [pyAll, PyData.eqvAll, Bool.and_eq_true, py_eq d e h.1 h'.1, pyAll_eq ds es h.2 h'.2, List.cons.injEq]
end
mutual
theorem Rp.dp {K : PySem.W.Frag} {S H : Hp} (e : Ex S H) : ∀ (d : D) {v : V}, d.ok = true → Rp K S v d → Dp K H v d.py
  | .non, _, _, h => by cases h; exact .non
  | .int i, _, _, h => by cases h; exact .int i
  | .str x, _, _, h => by cases h; exact .str x
  | .lst ds, _, o, h => by
    simp only [D.ok] at o
    cases h with
    | lst q r => exact .lst (ex_l e q) (RpAll.dp e ds o r)
  | .tup ds, _, o, h => by
    simp only [D.ok] at o
    cases h with
    | tup q r => exact .tup (ex_t e q) (RpAll.dp e ds o r)
theorem RpAll.dp {K : PySem.W.Frag} {S H : Hp} (e : Ex S H) : ∀ (ds : List D) {vs : List V}, okAll ds = true → RpAll K S vs ds → DpAll K H vs (pyAll ds)
  | [], _, _, h => by cases h; exact .nil
  | d :: ds, _, o, h => by
    simp only [okAll, Bool.and_eq_true] at o
    cases h with
    | cons a b => exact .cons (Rp.dp e d o.1 a) (RpAll.dp e ds o.2 b)
end
theorem ok_ints (l : List Int) : (D.lst (l.map D.int)).ok = true := okAll_of fun d hd => by
  obtain ⟨i, _, rfl⟩ := List.mem_map.mp hd; rfl
theorem dep_ints (l : List Int) : (D.lst (l.map D.int)).dep ≤ 64 := by
  have := depAll_le (ds := l.map D.int) (k := 0) fun d hd => by obtain ⟨i, _, rfl⟩ := List.mem_map.mp hd; simp [D.dep]
  simp only [D.dep]; omega
theorem map_int_inj {l l' : List Int} : l.map D.int = l'.map D.int ↔ l = l' := by
  constructor
  · intro h
    exact (List.map_inj_right (fun a b h => by cases h; rfl)).mp h
  · rintro rfl; rfl
section
variable {X : Cx} {ρ ρ' ρ1 ρ2 ρ3 : Env} {e a b c tg iter elt : Expr} {es rest ifs : List Expr} {x y z : VD} {pos apos cpos : Pos} {p q : Bool} {st : Stmt} {r body orelse : List Stmt} {k : Kn} {ds ds' : List D} {u u' d d' : D}
theorem ed_eqD (hu : X.A.units + 64 < cLine) (ha : ED X ρ a (.d d) ρ1) (hb : ED X ρ1 b (.d d') ρ2) (o1 : d.ok = true) (o2 : d'.ok = true) (s1 : d.dep ≤ 64) (s2 : d'.dep ≤ 64) (hp : p = true ↔ d = d') (hm : behindInMarks .Eq b = false := by rfl) : ED X ρ (.Compare a [.Eq] [b] pos) (.d (.bl p)) ρ2 :=
  ed_of (pe_cmpR (op_eqD hu) ha hb hm) fun σ H Q hk => two_ σ H Q _ hk fun fr S ad S1 H1 ad1 v1 v2 A st r1 r2 kk => by
    refine ⟨d.py, d'.py, Rp.dp A.grow.sh d o1 r1.dd, Rp.dp A.grow.sh d' o2 r2.dd, py_shaped o1 s1, py_shaped o2 s2, ?_⟩
    have e1 : PyData.eqv d.py d'.py = p := by rw [Bool.eq_iff_iff, py_eq d d' o1 o2, hp]
    rw [e1]
    exact kk S1 H1 ad1 _ (.refl _ _) A (.d (.bl _))
theorem td_eqD (hu : X.A.units + 64 < cLine) (ha : ED X ρ a (.d d) ρ1) (hb : ED X ρ1 b (.d d') ρ2) (o1 : d.ok = true) (o2 : d'.ok = true) (s1 : d.dep ≤ 64) (s2 : d'.dep ≤ 64) (hp : p = true ↔ d = d') (hm : behindInMarks .Eq b = false := by rfl) : TD X ρ (.Compare a [.Eq] [b] pos) p ρ2 :=
  td_of (pt_cmpR (op_eqD hu) ha hb hm) fun σ H Q hk => td_two σ H Q _ hk fun fr S ad S1 H1 ad1 v1 v2 A st r1 r2 Q' kk => by
    refine ⟨d.py, d'.py, Rp.dp A.grow.sh d o1 r1.dd, Rp.dp A.grow.sh d' o2 r2.dd, py_shaped o1 s1, py_shaped o2 s2, ?_⟩
    have e1 : PyData.eqv d.py d'.py = p := by rw [Bool.eq_iff_iff, py_eq d d' o1 o2, hp]
    rw [e1]
    exact kk S1 H1 ad1 (.refl _ _) A
theorem td_neD (hu : X.A.units + 64 < cLine) (ha : ED X ρ a (.d d) ρ1) (hb : ED X ρ1 b (.d d') ρ2) (o1 : d.ok = true) (o2 : d'.ok = true) (s1 : d.dep ≤ 64) (s2 : d'.dep ≤ 64) (hp : p = true ↔ d ≠ d') (hm : behindInMarks .NotEq b = false := by rfl) : TD X ρ (.Compare a [.NotEq] [b] pos) p ρ2 :=
  td_of (pt_cmpR (op_neD hu) ha hb hm) fun σ H Q hk => td_two σ H Q _ hk fun fr S ad S1 H1 ad1 v1 v2 A st r1 r2 Q' kk => by
    refine ⟨d.py, d'.py, Rp.dp A.grow.sh d o1 r1.dd, Rp.dp A.grow.sh d' o2 r2.dd, py_shaped o1 s1, py_shaped o2 s2, ?_⟩
    have e1 : (!PyData.eqv d.py d'.py) = p := by
      rw [Bool.eq_iff_iff, hp, Bool.not_eq_true', ← Bool.not_eq_true, py_eq d d' o1 o2]
    rw [e1]
    exact kk S1 H1 ad1 (.refl _ _) A
theorem td_eqLI {l l' : List Int} (hu : X.A.units + 64 < cLine) (ha : ED X ρ a (.d (.lst (l.map D.int))) ρ1) (hb : ED X ρ1 b (.d (.lst (l'.map D.int))) ρ2) (hm : behindInMarks .Eq b = false) : TD X ρ (.Compare a [.Eq] [b] pos) (decide (l = l')) ρ2 :=
  td_eqD hu ha hb (ok_ints l) (ok_ints l') (dep_ints l) (dep_ints l') (by rw [decide_eq_true_iff, D.lst.injEq, map_int_inj]) hm
theorem ed_eqLI {l l' : List Int} (hu : X.A.units + 64 < cLine) (ha : ED X ρ a (.d (.lst (l.map D.int))) ρ1) (hb : ED X ρ1 b (.d (.lst (l'.map D.int))) ρ2) (hm : behindInMarks .Eq b = false) : ED X ρ (.Compare a [.Eq] [b] pos) (.d (.bl (decide (l = l')))) ρ2 :=
  ed_eqD hu ha hb (ok_ints l) (ok_ints l') (dep_ints l) (dep_ints l') (by rw [decide_eq_true_iff, D.lst.injEq, map_int_inj]) hm
theorem td_neLI {l l' : List Int} (hu : X.A.units + 64 < cLine) (ha : ED X ρ a (.d (.lst (l.map D.int))) ρ1) (hb : ED X ρ1 b (.d (.lst (l'.map D.int))) ρ2) (hm : behindInMarks .NotEq b = false) : TD X ρ (.Compare a [.NotEq] [b] pos) (decide (l ≠ l')) ρ2 :=
  td_neD hu ha hb (ok_ints l) (ok_ints l') (dep_ints l) (dep_ints l') (by rw [decide_eq_true_iff, ne_eq, ne_eq, D.lst.injEq, map_int_inj]) hm
/-- l.index(i) -/
theorem pyAll_ints (l : List Int) : pyAll (l.map D.int) = l.map PyData.int := by
  induction l with
  | nil => rfl
  | cons i l ih => rw [List.map_cons, pyAll, ih]; rfl
theorem ed_index {l : List Int} {i : Int} (hu : X.A.units + 65 < cLine) (ha : ED X ρ a (.d (.lst (l.map D.int))) ρ1) (hb : ED X ρ1 b (.d (.int i)) ρ2) (hi : i ∈ l)
    (hbase : attributeBase a "index" X.env (eval a X.env) = eval a X.env)
    (hfew : ((backTo cpos (starEach [b] X.env)).all (fun x => !x.1) && (backToKw cpos (keywordEach [] X.env)).all (fun x => x.1.isSome)
      && decide ([b].length + ([] : List Keyword).length + (if ([] : List Keyword).isEmpty then 0 else 1) < 30)) = true)
    (hline : (apos.endLine == cpos.line) = true) (hs : starEach [b] X.env = (false, eval b X.env) :: starEach [] X.env) (hplain : (backTo cpos (starEach [] X.env)).any (·.1) = false) :
    ED X ρ (.Call (.Attribute a "index" apos) [b] [] cpos) (.d (.int (l.idxOf i))) ρ2 :=
  ed_of (pe_bm PySem.F.plainAttrs_list PySem.F.slot_list_index PySem.F.type_list_index (mt_indexD hu) ha (pa_cons hb pa_nil hs) hbase hfew hline hs hplain) fun σ H Q ⟨fr, S, ad, A, kk⟩ => ⟨fr, S, ad, A, fun S1 H1 ad1 v1 st1 A1 r1 => by
    obtain ⟨p, vs, e1, e2, e3⟩ := r1.dd.lst_inv
    refine ⟨by rw [e1]; exact .inl ⟨rfl, _, ex_l A1.grow.sh e2⟩, fr, S1, ad1, A1, fun S2 H2 ad2 v2 st2 A2 r2 => ?_⟩
    have o := ok_ints l
    have hd := Rp.dp (K := X.K) (A2.grow.sh) (.lst (l.map D.int)) o ((r1.mono st2).dd)
    have hlt : l.idxOf i < l.length := List.idxOf_lt_length_iff.mpr hi
    have hsh := py_shaped (d := .lst (l.map D.int)) o (dep_ints l)
    simp only [D.py, pyAll_ints] at hd hsh
    rw [e1] at hd ⊢
    refine ⟨p, v2, .int i, _, l.idxOf i, .int i, rfl, rfl, hd, by rw [r2.di]; exact .int i, hsh, rfl, ?_, by simp [PyData.eqv], fun m z' hm hz => ?_, kk S2 H2 ad2 _ (st1.trans st2) A2 (.d (.int _))⟩
    · rw [List.getElem?_map, List.getElem?_eq_getElem hlt, List.getElem_idxOf]; rfl
    · rw [List.getElem?_map, List.getElem?_eq_getElem (by omega)] at hz
      cases hz
      simp only [PyData.eqv, beq_eq_false_iff_ne, ne_eq]
      exact fun h => by
        have hn := List.not_of_lt_findIdx (p := (· == i)) (xs := l) (i := m) hm
        rw [beq_eq_false_iff_ne] at hn; exact hn h⟩
end
end DL

namespace DL
open PySem PySem.Spec PyProof.Rows L2
/-! ### sorted(set(l)), l a list of ints (turned from the library's rule for tuples) -/
abbrev newSetO (w : World) : Obj := { cls := .type "set", dict := none, data := .set #[] 0 (.fresh 0 0 (!w.params.followText "set-order")) }
section
variable {P : Program} {w : World} {A : Around} {E : Value → Shared → Prop} {s : Shared}
theorem call_set_listI {l : Addr} {items : Array Value} (ns : List Int) {Q : Value → Shared → Prop} (hh : A.handled = none) (hl : s.heap.IsList l items) (hit : IntsAre items.toList ns) (hb : ns.length + 1 < scanBound)
    (h : ∀ (h' : Heap) (tk c : Nat), SetR w h' s.heap.objs.size (fun j => decide (j ∈ ns)) c → c ≤ ns.length → (∀ b o, s.heap.get? b = some o → h'.get? b = some o) → Q (.ref s.heap.objs.size) { s with heap := h', toks := tk }) :
    wpAny (model P w) A (call (.type "set") [.ref l]) Q E s := by
  have hisz : items.size = ns.length := by
    have q := IntsAre.length hit
    rw [Array.length_toList] at q
    exact q
  obtain ⟨c, tl, hmro⟩ := F.called_set.mro
  have hmade := F.called_set.made
  have hsub := F.called_set.sub
  refine wpAny_call (codeAny_of_tree ?_)
  show wpAny _ _ (callAny (.type "set") _) _ _ _
  refine wpAny_pure ⟨Code.quiet_builtin _ (by decide +kernel), codeAny_builtin F.entry_type_call ?_⟩
  rw [Around.under_plain (weight_type_call_type "set" [.ref l] []) rfl]
  have h1 := F.called_set.notType
  have h2 := F.called_set.canCreate
  have hct := F.typeCall_set_1 (.ref l)
  repeat (any_goals (first | assumption | wp_step))

  refine codeAny_mono (code_set_led1 (.ref l) (E := E) (Q₁ := fun obj s₁ => obj = .ref s.heap.objs.size ∧ s₁ = { s with heap := s.heap.push (newSetO w) }) ⟨rfl, rfl⟩) fun r s₁ hr => ?_
  cases r with
  | error e => exact hr
  | ok fl =>
    cases fl with
    | ret obj =>
      obtain ⟨rfl, rfl⟩ := hr
      have hS : (s.heap.push (newSetO w)).get? s.heap.objs.size = some (newSetO w) := Heap.get?_push_size _ rfl
      have hT : Shared.TypeIs { s with heap := s.heap.push (newSetO w) } (.ref s.heap.objs.size) "set" := ⟨_, hS, rfl⟩
      have hli := F.called_set.init.lookup
      have hbi := F.called_set.init.bind (.ref s.heap.objs.size)
      repeat (any_goals (first | assumption | wp_step))

      refine codeAny_mono (codeAny_call_builtin (R := wants (fun r s₂ => r = .none ∧ ∃ h' tk c, s₂ = { s with heap := h', toks := tk } ∧ SetR w h' s.heap.objs.size (fun j => decide (j ∈ ns)) c ∧ c ≤ ns.length ∧
          (∀ b o, s.heap.get? b = some o → h'.get? b = some o)) E) F.called_set.init.plain F.entry_set_init (check_set_init_1 hT ?_)) fun r₂ s₂ hr₂ => ?_
      · obtain ⟨ol, hol, hcl, nl, hdl⟩ := hl
        obtain ⟨ocls, odict, odata, oslots⟩ := ol
        simp only at hcl hdl
        subst hcl; subst hdl
        have hol' : (s.heap.push (newSetO w)).get? l = some { cls := .type "list", dict := odict, data := .seq items nl, slots := oslots } := Heap.get?_push_of_some _ hol
        have hsls := F.sub_list_set
        have hslf := F.sub_list_frozenset
        have hne : (Value.type "list" == Value.type "dict") = false := by decide
        have hl1 : (s.heap.push (newSetO w)).IsList l items := ⟨_, hol', rfl, nl, rfl⟩
        unfold Builtin.«set.__init__» noKeywords Builtin.Frozenset.updateFrom
        generalize hPI : pyIter = PI
        wp_walk
        subst hPI

        refine wpAny_pyIter_list hl1 ?_
        refine wpAny_bind (wpAny_runValue ?_)
        have hlS : l < s.heap.objs.size := Heap.lt_size hol
        have hh3 : A.in1.in1.in1.handled = none := by simp [hh]
        have hz1 : (s.heap.push (newSetO w)).objs.size = s.heap.objs.size + 1 := Heap.size_push ..
        have hneI : l ≠ (s.heap.push (newSetO w)).objs.size := by
          rw [Heap.size_push]; exact Nat.ne_of_lt (Nat.lt_succ_of_lt hlS)
        have hSf : s.heap.objs.size ∉ [(s.heap.push (newSetO w)).objs.size, l] := by
          rw [Heap.size_push]; simp only [List.mem_cons, List.mem_singleton, List.not_mem_nil, or_false, not_or]
          exact ⟨Nat.ne_of_lt (Nat.lt_succ_self _), Nat.ne_of_gt hlS⟩
        have hval : ∀ (i : Nat) (v : Value), items[i]? = some v → ∃ k t, ns[i]? = some k ∧ v = .int k t := fun i v hv => by
          have hi : i < ns.length := by rw [← hisz]; exact (Array.getElem?_eq_some_iff.mp hv).1
          obtain ⟨t, e⟩ := PyProof.Rows.IntsAre.int_at hit i v (by rw [Array.getElem?_toList]; exact hv)
          refine ⟨ns[i], t, List.getElem?_eq_getElem hi, ?_⟩
          rw [e, List.getD_eq_getElem?_getD, List.getElem?_eq_getElem hi] <;> rfl
        refine set_update_ints ((Walks.list hh3 _ l hneI items).toS) s.heap.objs.size
          hSf ns hisz hb hval (items.size - 0) 0 _ (by omega) (Nat.zero_le _)
          ⟨⟨_, Heap.get?_push_size _ rfl, rfl, rfl⟩, (hl1.push _)⟩ ?hS0 ?hR
        case hS0 =>
          have hget : ((s.heap.push (newSetO w)).push { cls := .type "list_iterator", data := .fields #[.ref l, .int 0 0] }).get? s.heap.objs.size
              = some (newSetO w) := Heap.get?_push_of_some _ hS
          exact ⟨0, Nat.le_refl 0, setR_new_at hget⟩
        case hR =>
          intro s' c' hm hc' hS'
          obtain ⟨h', g2, d', tk', os'⟩ := s'
          have eg : g2 = s.gens := hm.gens
          have ed : d' = s.drawn := hm.drawn
          have eo : os' = s.os := hm.os
          subst eg; subst ed; subst eo
          show wpAny _ _ _ _ _ _
          refine wpAny_pure ?_
          show wpAny _ _ (ret Value.none) _ _ _
          rw [hisz] at hc'
          refine wpAny_pure ⟨rfl, h', tk', c', rfl, hS', hc', fun b o e => ?_⟩
          have hb0 : b < s.heap.objs.size := Heap.lt_size e
          have hb1 : b ≠ s.heap.objs.size := Nat.ne_of_lt hb0
          have hb2 : b ≠ (s.heap.push (newSetO w)).objs.size := by
            rw [Heap.size_push]; exact Nat.ne_of_lt (Nat.lt_succ_of_lt hb0)
          exact hm.heap b o (by simp only [List.mem_cons, List.mem_singleton, List.not_mem_nil, or_false, not_or]; exact ⟨hb1, hb2⟩) (Heap.get?_push_of_some _ (Heap.get?_push_of_some _ e))

      · cases r₂ with
        | error e => exact hr₂
        | ok fl₂ =>
          cases fl₂ with
          | ret r =>
            obtain ⟨rfl, h', tk, c', rfl, hS', hc', hk'⟩ := hr₂
            repeat (any_goals (first | assumption | wp_step))
            exact h _ _ _ hS' hc' hk'
          | _ => exact hr₂.elim
    | _ => exact hr.elim
end
section
variable {X : Cx} {ρ ρ' ρ1 ρ2 ρ3 : Env} {e a b c tg iter elt : Expr} {pos p1 p2 p3 : Pos}
def tSortSet (K : PySem.W.Frag) (ta : TE) : TE := fun σ H Q => ta σ H fun x H1 => ∃ (l : Addr) (ns : List Int), x = V.ref l ∧ SqL K H1 l (ns.map V.int) ∧ ns.length < 64 ∧
  ∀ (out : List Int) (p : Addr), out.Pairwise (· < ·) → (∀ k : Int, k ∈ out ↔ k ∈ ns) → H1 p = none → Q (.ref p) (upd H1 p (.lst (out.map V.int)))
theorem pe_sortSet {ta : TE} (hg : Gl X "sorted") (hm : X.mg "sorted" = none) (hg2 : Gl X "set") (hm2 : X.mg "set" = none) (ha : PE X a ta) (hc : X.calm = true)
    (na : starEach [a] X.env = (false, eval a X.env) :: starEach [] X.env) : PE X (.Call (.Name "sorted" p1) [.Call (.Name "set" p2) [a] [] p3] [] pos) (tSortSet X.K ta) := by
  refine ⟨fun pins s σ H Q I h => ?_⟩
  refine Call_ (ld_blt I hg hm boot_sorted ?_)
  refine PyProof.Rows.callWith_builtin1 (PyProof.Rows.args_cons ?_ rfl) rfl rfl
  refine Call_ (ld_blt I hg2 hm2 boot_set ?_)
  refine PyProof.Rows.callWith_type1 (PyProof.Rows.args_cons (thn (ha.run pins s σ H _ I h) fun v s1 ⟨x, H1, I1, r1, q1⟩ => PyProof.Rows.args_nil ?_) na) na rfl
  obtain ⟨l, ns, rfl, hq, h64, q1⟩ := q1
  cases r1
  obtain ⟨its, r, pl, hz⟩ := I1.list hq
  refine call_set_listI ns (I1.ok.hd hc) pl.isList (intsAre_of r) (by unfold scanBound; omega) fun h' tk c' hS hc' hk => ?_
  refine PyProof.Rows.args_nil ?_
  have I2 : Inv X pins σ H1 { s1 with heap := h', toks := tk } := I1.kept fun b o e => hk b o e
  refine sorted_set hS (I1.ok.hd hc) (by omega) fun s' p out c2 ns2 k g o hp hg' hi hs hm' hl => ?_
  have hlen : (ns2.map V.int).length ≤ sizeLine := by rw [List.length_map, hl, sizeLine_eq]; omega
  have hn : H1 p = none := I2.hok.fresh hp
  have J : Inv X pins σ (upd H1 p (.lst (ns2.map V.int))) { ({ s1 with heap := h', toks := tk } : Shared) with heap := s'.heap, gens := s'.gens, drawn := s'.drawn, toks := s'.toks } :=
    I2.call (ch := []) (Un.laid k hp hn) (I2.hok.laid k hp ⟨hlen, out.toList, c2, vals_of_ints hi, hg'⟩) (by rw [g]; exact I2.bare) (fun _ z => nomatch z)
  have e : s' = { ({ s1 with heap := h', toks := tk } : Shared) with heap := s'.heap, gens := s'.gens, drawn := s'.drawn, toks := s'.toks } := by
    cases s'
    cases s1
    cases o
    rfl
  rw [e]
  exact ⟨.ref p, _, J, rfl, q1 ns2 p hs (fun k => by rw [hm']; simp) hn⟩
theorem ed_sortSet {l out : List Int} (ha : ED X ρ a (.d (.lst (l.map D.int))) ρ1) (h64 : l.length < 64) (hout : ∀ o : List Int, o.Pairwise (· < ·) → (∀ k : Int, k ∈ o ↔ k ∈ l) → o = out) (hg : Gl X "sorted") (hm : X.mg "sorted" = none) (hg2 : Gl X "set") (hm2 : X.mg "set" = none) (hc : X.calm = true)
    (na : starEach [a] X.env = (false, eval a X.env) :: starEach [] X.env) : ED X ρ (.Call (.Name "sorted" p1) [.Call (.Name "set" p2) [a] [] p3] [] pos) (.d (.lst (out.map D.int))) ρ1 :=
  ed_of (pe_sortSet hg hm hg2 hm2 ha hc na) fun σ H Q ⟨fr, S, ad, A, kk⟩ => ⟨fr, S, ad, A, fun S1 H1 ad1 v st1 A1 r1 => by
    obtain ⟨p, vs, e1, e2, e3⟩ := r1.dd.lst_inv
    have e4 := e3.ints
    subst e4
    refine ⟨p, l, e1, ex_l A1.grow.sh e2, h64, fun o q h1 h2 hq => ?_⟩
    have e5 := hout o h1 h2
    subst e5
    obtain ⟨A2, st2⟩ := A1.newS (o := .lst (o.map V.int)) hq
    exact kk _ _ ad1 _ (st1.trans st2) A2 (.d (.lst (SqL.of upd_same) (RpAll.of_ints o)))⟩
end
end DL

namespace DL
open PySem PySem.Spec PyProof.Rows L2
section
variable {X : Cx} {ρ ρ' ρ1 ρ2 ρ3 : Env} {e a b c tg iter elt : Expr} {r : List Stmt} {k : Kn} {pos p1 p2 pp : Pos}
/-- name, name = e -/
theorem sds_asg2 (i j : Nat) {n m : Str} {kk : Nat} {d1 d2 : D} (he : ED X ρ e (.d (.tup [d1, d2])) ρ1) (h : SDs X ((ρ1.put i (.d d1)).put j (.d d2)) r k) (hN : X.N.Nodup) (hc : X.calm = true) (hi : X.N[i]? = some n) (hj : X.N[j]? = some m)
    (hx : Loc X.env.scope n) (hf : X.fn n = true ∨ X.env.scope.names.lookup n = some .local) (hy : Loc X.env.scope m) (hf2 : X.fn m = true ∨ X.env.scope.names.lookup m = some .local)
    (hs : swapsWithSole [.Tuple [.Name n p1, .Name m p2] kk pp] e pos.line X.env = pure false) (hw : swappedStores [.Tuple [.Name n p1, .Name m p2] kk pp] e X.env = pure none) :
    SDs X ρ (.Assign [.Tuple [.Name n p1, .Name m p2] kk pp] e pos :: r) k :=
  sds_asg he (gd_tup (xs := []) (ds := [d1, d2]) hc (gds_cons (gd_name i hN hi hx hf) (gds_cons (gd_name j hN hj hy hf2) gds_nil rfl) rfl) rfl rfl rfl) h hs hw rfl
end
end DL

namespace DL
open PySem PySem.Spec PyProof.Rows L2
section
variable {P : Program} {w : World} {K : PySem.W.Frag} {mg : Str → Option Value} {base : Heap} {x qual : Str} {params : Arguments} {body : List Stmt} {scope : Scope} {f : Addr} {fd : FuncData} {N ps : List Str} {j : Nat} {R : FSpec}
/-- a def keeps its promise, as the head wants it -/
theorem fn_Dok (F : FunD K x qual params body scope [] [] f fd) (sc : FnScope N ps scope) (hlen : ∀ xs os r os', R xs os r os' → xs.length = ps.length ∧ os'.length = os.length ∧ ∀ o ∈ os', o.free)
    (hbody : ∀ (cdv : Value) (A : Around) (outer : List PySem.Env) (s : Shared) (H : Hp) (E : XK), Room j (A.deeper (envOfC qual scope s.heap.objs.size f cdv)) → ∀ xs os r os', R xs os r os' → (∀ o ∈ os, o.free) →
      SDs (cxOf CX0 P w K mg base N qual scope f cdv A outer s H E).nox (env0 N xs os) body (kn0 os.length r os')) : FnOk P w K mg base CX0 (j + 1) f fd ps (spF K R) := by
  refine F.ok sc (fun vs H Q E h => ?_) (fun cdv A outer s H vs Q E hr h => ?_)
  · obtain ⟨S, M, xs, os, rr, os', _, hv, _, _, h5, _⟩ := h
    rw [hv.length]; exact (hlen _ _ _ _ h5).1
  · obtain ⟨S, M, xs, os, rr, os', h1, hv, ho, hM, h5, hf, k⟩ := h
    obtain ⟨l1, l2, l3⟩ := hlen _ _ _ _ h5
    refine ⟨_, (hbody cdv A outer s H E hr xs os rr os' h5 hf).nox, body_read h1 hv ho hM ?_ l3 l2 k⟩
    have := congrArg List.length sc.pre
    rw [List.length_take] at this
    omega
end
end DL

namespace HK
open PySem PySem.W PySem.Calls PyProof.Rows He
/-! the head's facts: a list of Bools of what is looked at, and the defs at their places -/
def obsM (fa : List (Frag → Bool)) (fn : List He5.DefA) (K : Frag) : He.AlD := ((fa.all fun f => f K) && fn.all fun d => d.ok K, fn.map fun d => He5.fnA K (d.at_ K))
def valM (fn : List He5.DefA) : He.AlD := (true, fn.map He5.DefA.val)
def SaysM (fa : List (Frag → Bool)) (fn : List He5.DefA) (K : Frag) : Prop := obsM fa fn K = valM fn
def obsMG (n : Nat) (fa : List (Frag → Bool)) (fn : List He5.DefA) (g : Addr → Option Obj) : He.AlD := obsM fa fn (frG g (He5.asA g n))
def hookM (n : Nat) (fa : List (Frag → Bool)) (fn : List He5.DefA) : PySem.W.Hook where
  α := He.AlD
  obs := fun s => obsMG n fa fn s.heap.get?
  val := fun _ => valM fn
  says := fun _ h => ∃ K : Frag, K.In h ∧ SaysM fa fn K
  of := fun _ _ e => ⟨_, frG_in, e⟩
  keeps := fun _ _ _ ⟨K, hK, c⟩ k => ⟨K, Frag.In.keeps hK k, c⟩
theorem obsMG_eq {n : Nat} {fa : List (Frag → Bool)} {fn : List He5.DefA} {g : Addr → Option Obj} {s : Shared} (h : ∀ a, g a = s.heap.get? a) : obsMG n fa fn g = (hookM n fa fn).obs s := by
  have eg : g = s.heap.get? := funext h
  rw [eg] <;> rfl
section
variable {fa : List (Frag → Bool)} {fn : List He5.DefA} {K : Frag}
theorem SaysM.fact (c : SaysM fa fn K) (i : Nat) {f : Frag → Bool} (h : fa[i]? = some f) : f K = true := by
  have c1 := (ba (show ((fa.all fun f => f K) && fn.all fun d => d.ok K) = true from congrArg (fun z : He.AlD => z.1) c)).1
  exact List.all_eq_true.mp c1 f (List.mem_of_getElem? h)
theorem SaysM.def_ (c : SaysM fa fn K) (i : Nat) {d : He5.DefA} (h : fn[i]? = some d) : ∃ fd, L2.FunD K d.name d.qual d.params d.body d.scope (d.dvs K) (d.kws K) (d.at_ K) fd := by
  have c2 := (ba (show ((fa.all fun f => f K) && fn.all fun d => d.ok K) = true from congrArg (fun z : He.AlD => z.1) c)).2
  have e1 : fn.map (fun d => He5.fnA K (d.at_ K)) = fn.map He5.DefA.val := congrArg (fun z : He.AlD => z.2) c
  have e2 : (fn.map fun d => He5.fnA K (d.at_ K))[i]? = (fn.map He5.DefA.val)[i]? := by rw [e1]
  rw [List.getElem?_map, List.getElem?_map, h] at e2
  exact He5.DefA.funD (Option.some.inj e2) (List.all_eq_true.mp c2 d (List.mem_of_getElem? h))
end
/-- a property's getter -/
def pg (K : Frag) (C : Addr) (m : PySem.Str) : Addr := match recIn K (ma K C m) "property" with
  | some (.ref f :: _) => f
  | _ => 0
def propB (K : Frag) (C : Addr) (m : PySem.Str) : Bool := eqO (findIn K (.ref C) m) (some (some (.ref (ma K C m)))) && (eqO (specialIn K (.ref (ma K C m)) "__get__") (some (some (.builtin "property.__get__"))) &&
  (decide (takesIn K (.ref (ma K C m)) = some true) && (match recIn K (ma K C m) "property" with
    | some (.ref _ :: _) => true
    | _ => false)))
theorem propB_ok {K : Frag} {C : Addr} {m : PySem.Str} (h : propB K C m = true) : L2.PropOf K C m (ma K C m) (pg K C m) := by
  obtain ⟨h1, h⟩ := ba h
  obtain ⟨h2, h⟩ := ba h
  obtain ⟨h3, h4⟩ := ba h
  refine ⟨eqO_ok h1, eqO_ok h2, of_decide_eq_true h3, ?_⟩
  unfold pg
  split at h4
  · rename_i f r e
    exact ⟨r, by rw [e]⟩
  · cases h4
end HK
namespace Pr
open PySem PySem.Spec PyProof.Rows L2 DL
def topS (i : Nat) : Stmt := PySem.Challenge.pw_rowdominoes_k17_whole_stones_that_are_ta.main.body.getD i (.Pass ⟨0, 0, 0, 0⟩)
abbrev s_InvalidRow_init : Stmt := inClass (topS 3) 0
abbrev n_InvalidRow_init : List Str := ["self", "index"]
theorem sc_InvalidRow_init : FnScope n_InvalidRow_init ["self", "index"] (defScope s_InvalidRow_init) := ⟨rfl, rfl, rfl, by decide +kernel, rfl, by decide +kernel, by decide +kernel⟩
abbrev s_is_integer : Stmt := topS 14
abbrev n_is_integer : List Str := ["value", "low", "high"]
theorem sc_is_integer : FnScope n_is_integer ["value", "low", "high"] (defScope s_is_integer) := ⟨rfl, rfl, rfl, by decide +kernel, rfl, by decide +kernel, by decide +kernel⟩
abbrev s_is_stone : Stmt := topS 15
abbrev n_is_stone : List Str := ["value", "least", "place", "height"]
theorem sc_is_stone : FnScope n_is_stone ["value", "least"] (defScope s_is_stone) := ⟨rfl, rfl, rfl, by decide +kernel, rfl, by decide +kernel, by decide +kernel⟩
abbrev s_check_side : Stmt := topS 16
abbrev n_check_side : List Str := ["side"]
theorem sc_check_side : FnScope n_check_side ["side"] (defScope s_check_side) := ⟨rfl, rfl, rfl, by decide +kernel, rfl, by decide +kernel, by decide +kernel⟩
abbrev s_Row_init : Stmt := inClass (topS 17) 1
abbrev n_Row_init : List Str := ["self", "stones", "least", "index", "stone"]
theorem sc_Row_init : FnScope n_Row_init ["self", "stones"] (defScope s_Row_init) := ⟨rfl, rfl, rfl, by decide +kernel, rfl, by decide +kernel, by decide +kernel⟩
abbrev s_Row_stones : Stmt := inClass (topS 17) 3
abbrev n_Row_stones : List Str := ["self"]
theorem sc_Row_stones : FnScope n_Row_stones ["self"] (defScope s_Row_stones) := ⟨rfl, rfl, rfl, by decide +kernel, rfl, by decide +kernel, by decide +kernel⟩
abbrev s_Row_places : Stmt := inClass (topS 17) 4
abbrev n_Row_places : List Str := ["self", "stone"]
theorem sc_Row_places : FnScope n_Row_places ["self"] (defScope s_Row_places) := ⟨rfl, rfl, rfl, by decide +kernel, rfl, by decide +kernel, by decide +kernel⟩
abbrev s_Row_len : Stmt := inClass (topS 17) 5
abbrev n_Row_len : List Str := ["self"]
theorem sc_Row_len : FnScope n_Row_len ["self"] (defScope s_Row_len) := ⟨rfl, rfl, rfl, by decide +kernel, rfl, by decide +kernel, by decide +kernel⟩
abbrev s_Row_iter : Stmt := inClass (topS 17) 6
abbrev n_Row_iter : List Str := ["self"]
theorem sc_Row_iter : FnScope n_Row_iter ["self"] (defScope s_Row_iter) := ⟨rfl, rfl, rfl, by decide +kernel, rfl, by decide +kernel, by decide +kernel⟩
abbrev s_Row_check_stone : Stmt := inClass (topS 17) 7
abbrev n_Row_check_stone : List Str := ["self", "stone"]
theorem sc_Row_check_stone : FnScope n_Row_check_stone ["self", "stone"] (defScope s_Row_check_stone) := ⟨rfl, rfl, rfl, by decide +kernel, rfl, by decide +kernel, by decide +kernel⟩
abbrev s_Row_getitem : Stmt := inClass (topS 17) 8
abbrev n_Row_getitem : List Str := ["self", "stone"]
theorem sc_Row_getitem : FnScope n_Row_getitem ["self", "stone"] (defScope s_Row_getitem) := ⟨rfl, rfl, rfl, by decide +kernel, rfl, by decide +kernel, by decide +kernel⟩
abbrev s_Row_contains : Stmt := inClass (topS 17) 9
abbrev n_Row_contains : List Str := ["self", "place", "stone"]
theorem sc_Row_contains : FnScope n_Row_contains ["self", "place"] (defScope s_Row_contains) := ⟨rfl, rfl, rfl, by decide +kernel, rfl, by decide +kernel, by decide +kernel⟩
abbrev s_Row_eq : Stmt := inClass (topS 17) 10
abbrev n_Row_eq : List Str := ["self", "other"]
theorem sc_Row_eq : FnScope n_Row_eq ["self", "other"] (defScope s_Row_eq) := ⟨rfl, rfl, rfl, by decide +kernel, rfl, by decide +kernel, by decide +kernel⟩
abbrev s_Row_add : Stmt := inClass (topS 17) 11
abbrev n_Row_add : List Str := ["self", "other"]
theorem sc_Row_add : FnScope n_Row_add ["self", "other"] (defScope s_Row_add) := ⟨rfl, rfl, rfl, by decide +kernel, rfl, by decide +kernel, by decide +kernel⟩
abbrev s_Row_rshift : Stmt := inClass (topS 17) 12
abbrev n_Row_rshift : List Str := ["self", "distance"]
theorem sc_Row_rshift : FnScope n_Row_rshift ["self", "distance"] (defScope s_Row_rshift) := ⟨rfl, rfl, rfl, by decide +kernel, rfl, by decide +kernel, by decide +kernel⟩
abbrev s_Row_invert : Stmt := inClass (topS 17) 13
abbrev n_Row_invert : List Str := ["self"]
theorem sc_Row_invert : FnScope n_Row_invert ["self"] (defScope s_Row_invert) := ⟨rfl, rfl, rfl, by decide +kernel, rfl, by decide +kernel, by decide +kernel⟩
abbrev s_Row_call : Stmt := inClass (topS 17) 14
abbrev n_Row_call : List Str := ["self", "stone", "side"]
theorem sc_Row_call : FnScope n_Row_call ["self", "stone", "side"] (defScope s_Row_call) := ⟨rfl, rfl, rfl, by decide +kernel, rfl, by decide +kernel, by decide +kernel⟩
abbrev s_Row_without : Stmt := inClass (topS 17) 15
abbrev n_Row_without : List Str := ["self", "stones", "stone", "number", "block"]
theorem sc_Row_without : FnScope n_Row_without ["self", "stones"] (defScope s_Row_without) := ⟨rfl, rfl, rfl, by decide +kernel, rfl, by decide +kernel, by decide +kernel⟩
abbrev s_row_of : Stmt := topS 18
abbrev n_row_of : List Str := ["stones"]
theorem sc_row_of : FnScope n_row_of ["stones"] (defScope s_row_of) := ⟨rfl, rfl, rfl, by decide +kernel, rfl, by decide +kernel, by decide +kernel⟩
abbrev s_moved : Stmt := topS 19
abbrev n_moved : List Str := ["stones", "distance", "place", "height"]
theorem sc_moved : FnScope n_moved ["stones", "distance"] (defScope s_moved) := ⟨rfl, rfl, rfl, by decide +kernel, rfl, by decide +kernel, by decide +kernel⟩
abbrev s_mirrored : Stmt := topS 20
abbrev n_mirrored : List Str := ["stones", "total", "place", "height"]
theorem sc_mirrored : FnScope n_mirrored ["stones"] (defScope s_mirrored) := ⟨rfl, rfl, rfl, by decide +kernel, rfl, by decide +kernel, by decide +kernel⟩
abbrev s_right_end : Stmt := topS 21
abbrev n_right_end : List Str := ["stones", "stone", "end", "reach"]
theorem sc_right_end : FnScope n_right_end ["stones", "stone"] (defScope s_right_end) := ⟨rfl, rfl, rfl, by decide +kernel, rfl, by decide +kernel, by decide +kernel⟩
abbrev s_run_of : Stmt := topS 22
abbrev n_run_of : List Str := ["stones", "stone", "side", "last"]
theorem sc_run_of : FnScope n_run_of ["stones", "stone", "side"] (defScope s_run_of) := ⟨rfl, rfl, rfl, by decide +kernel, rfl, by decide +kernel, by decide +kernel⟩
abbrev s_taken_to_right : Stmt := topS 24
abbrev n_taken_to_right : List Str := ["stones", "stone", "goal", "best", "first", "place", "some", "number"]
theorem sc_taken_to_right : FnScope n_taken_to_right ["stones", "stone", "goal"] (defScope s_taken_to_right) := ⟨rfl, rfl, rfl, by decide +kernel, rfl, by decide +kernel, by decide +kernel⟩
abbrev s_fewest_taken : Stmt := topS 25
abbrev n_fewest_taken : List Str := ["row", "stone", "side", "goal", "first", "last", "size", "found", "number"]
theorem sc_fewest_taken : FnScope n_fewest_taken ["row", "stone", "side", "goal"] (defScope s_fewest_taken) := ⟨rfl, rfl, rfl, by decide +kernel, rfl, by decide +kernel, by decide +kernel⟩
abbrev s_spared_without : Stmt := topS 27
abbrev n_spared_without : List Str := ["row", "stone", "side", "other", "first", "last", "less", "low", "high", "falling", "number"]
theorem sc_spared_without : FnScope n_spared_without ["row", "stone", "side", "other"] (defScope s_spared_without) := ⟨rfl, rfl, rfl, by decide +kernel, rfl, by decide +kernel, by decide +kernel⟩
abbrev s_law_taken : Stmt := topS 29
abbrev n_law_taken : List Str := ["_law_row_here", "_law_many", "_law_found", "_law_cell"]
theorem sc_law_taken : FnScope n_law_taken ["_law_row_here", "_law_many"] (defScope s_law_taken) := ⟨rfl, rfl, rfl, by decide +kernel, rfl, by decide +kernel, by decide +kernel⟩
abbrev s_law_stones : Stmt := topS 30
abbrev n_law_stones : List Str := ["_law_row_here", "_law_most", "_law_found", "_law_place", "_law_k"]
theorem sc_law_stones : FnScope n_law_stones ["_law_row_here", "_law_most"] (defScope s_law_stones) := ⟨rfl, rfl, rfl, by decide +kernel, rfl, by decide +kernel, by decide +kernel⟩
abbrev s_law_row : Stmt := topS 31
abbrev n_law_row : List Str := ["_law_stones_here", "_law_row_here", "_law_stone"]
theorem sc_law_row : FnScope n_law_row ["_law_stones_here"] (defScope s_law_row) := ⟨rfl, rfl, rfl, by decide +kernel, rfl, by decide +kernel, by decide +kernel⟩
abbrev s_law_less : Stmt := topS 32
abbrev n_law_less : List Str := ["_law_one", "_law_numbers", "_law_number"]
theorem sc_law_less : FnScope n_law_less ["_law_one", "_law_numbers"] (defScope s_law_less) := ⟨rfl, rfl, rfl, by decide +kernel, rfl, by decide +kernel, by decide +kernel⟩
abbrev s_law_fells : Stmt := topS 33
abbrev n_law_fells : List Str := ["_law_one", "_law_numbers", "_law_stone", "_law_side", "_law_left", "_law_first", "_law_last", "_law_number"]
theorem sc_law_fells : FnScope n_law_fells ["_law_one", "_law_numbers", "_law_stone", "_law_side"] (defScope s_law_fells) := ⟨rfl, rfl, rfl, by decide +kernel, rfl, by decide +kernel, by decide +kernel⟩
abbrev s_law_is_least : Stmt := topS 34
abbrev n_law_is_least : List Str := ["_law_one", "_law_stone", "_law_side", "_law_goal", "_law_some", "_law_all_fall", "_law_between", "_law_number", "_law_other"]
theorem sc_law_is_least : FnScope n_law_is_least ["_law_one", "_law_stone", "_law_side", "_law_goal"] (defScope s_law_is_least) := ⟨rfl, rfl, rfl, by decide +kernel, rfl, by decide +kernel, by decide +kernel⟩
abbrev s_law : Stmt := topS 35
abbrev n_law : List Str := ["_law_script", "_law_row_here", "_law_turn", "_law_one", "_law_again", "_law_stone", "_law_goal", "_law_side", "_law_due", "_law_number"]
theorem sc_law : FnScope n_law ["_law_script"] (defScope s_law) := ⟨rfl, rfl, rfl, by decide +kernel, rfl, by decide +kernel, by decide +kernel⟩
/-- what the top has made, as the walk needs it -/
structure Tx (K : PySem.W.Frag) (mg : Str → Option Value) : Prop where
  f_len : mg "len" = none
  f_range : mg "range" = none
  f_sorted : mg "sorted" = none
  f_set : mg "set" = none
  f_min : mg "min" = none
  f_max : mg "max" = none
  f_int : mg "int" = none
  f_isinstance : mg "isinstance" = none
  f_enumerate : mg "enumerate" = none
  f_tuple : mg "tuple" = none
  f_str : mg "str" = none
  f_bool : mg "bool" = none
  f_TypeError : mg "TypeError" = none
  f_ValueError : mg "ValueError" = none
  v_LEFT : ∃ t, mg "LEFT" = some (.str "left" t)
  v_RIGHT : ∃ t, mg "RIGHT" = some (.str "right" t)
  g_SIDES : mg "SIDES" = some (.ref (He.ga K "SIDES"))
  t_SIDES : ∀ H : Hp, SqT K H (He.ga K "SIDES") [.str "left", .str "right"]
  v_MAX_STONES_rows : ∃ t, mg "MAX_STONES_rows" = some (.int 40 t)
  v_MAX_PLACE : ∃ t, mg "MAX_PLACE" = some (.int 1000000000 t)
  v_MAX_HEIGHT : ∃ t, mg "MAX_HEIGHT" = some (.int 1000000000 t)
  d_InvalidRow_init : ∃ fd, FunD K "__init__" "InvalidRow.__init__" (defArgs s_InvalidRow_init) (defBody s_InvalidRow_init) (defScope s_InvalidRow_init) [] [] (He.ma K (He.ga K "InvalidRow") "__init__") fd
  d_is_integer : ∃ fd, FunD K "is_integer" "is_integer" (defArgs s_is_integer) (defBody s_is_integer) (defScope s_is_integer) [] [] (He.ga K "is_integer") fd
  g_is_integer : mg "is_integer" = some (.ref (He.ga K "is_integer"))
  d_is_stone : ∃ fd, FunD K "is_stone" "is_stone" (defArgs s_is_stone) (defBody s_is_stone) (defScope s_is_stone) [] [] (He.ga K "is_stone") fd
  g_is_stone : mg "is_stone" = some (.ref (He.ga K "is_stone"))
  d_check_side : ∃ fd, FunD K "check_side" "check_side" (defArgs s_check_side) (defBody s_check_side) (defScope s_check_side) [] [] (He.ga K "check_side") fd
  g_check_side : mg "check_side" = some (.ref (He.ga K "check_side"))
  d_Row_init : ∃ fd, FunD K "__init__" "Row.__init__" (defArgs s_Row_init) (defBody s_Row_init) (defScope s_Row_init) [] [] (He.ma K (He.ga K "Row") "__init__") fd
  m_Row_init : Meth K (He.ga K "Row") "__init__" (He.ma K (He.ga K "Row") "__init__")
  d_Row_stones : ∃ fd, FunD K "stones" "Row.stones" (defArgs s_Row_stones) (defBody s_Row_stones) (defScope s_Row_stones) [] [] (HK.pg K (He.ga K "Row") "stones") fd
  p_Row_stones : PropOf K (He.ga K "Row") "stones" (He.ma K (He.ga K "Row") "stones") (HK.pg K (He.ga K "Row") "stones")
  d_Row_places : ∃ fd, FunD K "places" "Row.places" (defArgs s_Row_places) (defBody s_Row_places) (defScope s_Row_places) [] [] (HK.pg K (He.ga K "Row") "places") fd
  p_Row_places : PropOf K (He.ga K "Row") "places" (He.ma K (He.ga K "Row") "places") (HK.pg K (He.ga K "Row") "places")
  d_Row_len : ∃ fd, FunD K "__len__" "Row.__len__" (defArgs s_Row_len) (defBody s_Row_len) (defScope s_Row_len) [] [] (He.ma K (He.ga K "Row") "__len__") fd
  m_Row_len : Meth K (He.ga K "Row") "__len__" (He.ma K (He.ga K "Row") "__len__")
  d_Row_iter : ∃ fd, FunD K "__iter__" "Row.__iter__" (defArgs s_Row_iter) (defBody s_Row_iter) (defScope s_Row_iter) [] [] (He.ma K (He.ga K "Row") "__iter__") fd
  m_Row_iter : Meth K (He.ga K "Row") "__iter__" (He.ma K (He.ga K "Row") "__iter__")
  d_Row_check_stone : ∃ fd, FunD K "check_stone" "Row.check_stone" (defArgs s_Row_check_stone) (defBody s_Row_check_stone) (defScope s_Row_check_stone) [] [] (He.ma K (He.ga K "Row") "check_stone") fd
  m_Row_check_stone : Meth K (He.ga K "Row") "check_stone" (He.ma K (He.ga K "Row") "check_stone")
  d_Row_getitem : ∃ fd, FunD K "__getitem__" "Row.__getitem__" (defArgs s_Row_getitem) (defBody s_Row_getitem) (defScope s_Row_getitem) [] [] (He.ma K (He.ga K "Row") "__getitem__") fd
  m_Row_getitem : Meth K (He.ga K "Row") "__getitem__" (He.ma K (He.ga K "Row") "__getitem__")
  d_Row_contains : ∃ fd, FunD K "__contains__" "Row.__contains__" (defArgs s_Row_contains) (defBody s_Row_contains) (defScope s_Row_contains) [] [] (He.ma K (He.ga K "Row") "__contains__") fd
  m_Row_contains : Meth K (He.ga K "Row") "__contains__" (He.ma K (He.ga K "Row") "__contains__")
  d_Row_eq : ∃ fd, FunD K "__eq__" "Row.__eq__" (defArgs s_Row_eq) (defBody s_Row_eq) (defScope s_Row_eq) [] [] (He.ma K (He.ga K "Row") "__eq__") fd
  m_Row_eq : Meth K (He.ga K "Row") "__eq__" (He.ma K (He.ga K "Row") "__eq__")
  d_Row_add : ∃ fd, FunD K "__add__" "Row.__add__" (defArgs s_Row_add) (defBody s_Row_add) (defScope s_Row_add) [] [] (He.ma K (He.ga K "Row") "__add__") fd
  m_Row_add : Meth K (He.ga K "Row") "__add__" (He.ma K (He.ga K "Row") "__add__")
  d_Row_rshift : ∃ fd, FunD K "__rshift__" "Row.__rshift__" (defArgs s_Row_rshift) (defBody s_Row_rshift) (defScope s_Row_rshift) [] [] (He.ma K (He.ga K "Row") "__rshift__") fd
  m_Row_rshift : Meth K (He.ga K "Row") "__rshift__" (He.ma K (He.ga K "Row") "__rshift__")
  d_Row_invert : ∃ fd, FunD K "__invert__" "Row.__invert__" (defArgs s_Row_invert) (defBody s_Row_invert) (defScope s_Row_invert) [] [] (He.ma K (He.ga K "Row") "__invert__") fd
  m_Row_invert : Meth K (He.ga K "Row") "__invert__" (He.ma K (He.ga K "Row") "__invert__")
  d_Row_call : ∃ fd, FunD K "__call__" "Row.__call__" (defArgs s_Row_call) (defBody s_Row_call) (defScope s_Row_call) [] [] (He.ma K (He.ga K "Row") "__call__") fd
  m_Row_call : Meth K (He.ga K "Row") "__call__" (He.ma K (He.ga K "Row") "__call__")
  fi_Row_call : PySem.W.fnIn K (He.ma K (He.ga K "Row") "__call__") = true
  d_Row_without : ∃ fd, FunD K "without" "Row.without" (defArgs s_Row_without) (defBody s_Row_without) (defScope s_Row_without) [] [] (He.ma K (He.ga K "Row") "without") fd
  m_Row_without : Meth K (He.ga K "Row") "without" (He.ma K (He.ga K "Row") "without")
  d_row_of : ∃ fd, FunD K "row_of" "row_of" (defArgs s_row_of) (defBody s_row_of) (defScope s_row_of) [] [] (He.ga K "row_of") fd
  g_row_of : mg "row_of" = some (.ref (He.ga K "row_of"))
  d_moved : ∃ fd, FunD K "moved" "moved" (defArgs s_moved) (defBody s_moved) (defScope s_moved) [] [] (He.ga K "moved") fd
  g_moved : mg "moved" = some (.ref (He.ga K "moved"))
  d_mirrored : ∃ fd, FunD K "mirrored" "mirrored" (defArgs s_mirrored) (defBody s_mirrored) (defScope s_mirrored) [] [] (He.ga K "mirrored") fd
  g_mirrored : mg "mirrored" = some (.ref (He.ga K "mirrored"))
  d_right_end : ∃ fd, FunD K "right_end" "right_end" (defArgs s_right_end) (defBody s_right_end) (defScope s_right_end) [] [] (He.ga K "right_end") fd
  g_right_end : mg "right_end" = some (.ref (He.ga K "right_end"))
  d_run_of : ∃ fd, FunD K "run_of" "run_of" (defArgs s_run_of) (defBody s_run_of) (defScope s_run_of) [] [] (He.ga K "run_of") fd
  g_run_of : mg "run_of" = some (.ref (He.ga K "run_of"))
  d_taken_to_right : ∃ fd, FunD K "taken_to_right" "taken_to_right" (defArgs s_taken_to_right) (defBody s_taken_to_right) (defScope s_taken_to_right) [] [] (He.ga K "taken_to_right") fd
  g_taken_to_right : mg "taken_to_right" = some (.ref (He.ga K "taken_to_right"))
  d_fewest_taken : ∃ fd, FunD K "fewest_taken" "fewest_taken" (defArgs s_fewest_taken) (defBody s_fewest_taken) (defScope s_fewest_taken) [] [] (He.ga K "fewest_taken") fd
  g_fewest_taken : mg "fewest_taken" = some (.ref (He.ga K "fewest_taken"))
  d_spared_without : ∃ fd, FunD K "spared_without" "spared_without" (defArgs s_spared_without) (defBody s_spared_without) (defScope s_spared_without) [] [] (He.ga K "spared_without") fd
  g_spared_without : mg "spared_without" = some (.ref (He.ga K "spared_without"))
  d_law_taken : ∃ fd, FunD K "_law_taken" "_law_taken" (defArgs s_law_taken) (defBody s_law_taken) (defScope s_law_taken) [] [] (He.ga K "_law_taken") fd
  g_law_taken : mg "_law_taken" = some (.ref (He.ga K "_law_taken"))
  d_law_stones : ∃ fd, FunD K "_law_stones" "_law_stones" (defArgs s_law_stones) (defBody s_law_stones) (defScope s_law_stones) [] [] (He.ga K "_law_stones") fd
  g_law_stones : mg "_law_stones" = some (.ref (He.ga K "_law_stones"))
  d_law_row : ∃ fd, FunD K "_law_row" "_law_row" (defArgs s_law_row) (defBody s_law_row) (defScope s_law_row) [] [] (He.ga K "_law_row") fd
  g_law_row : mg "_law_row" = some (.ref (He.ga K "_law_row"))
  d_law_less : ∃ fd, FunD K "_law_less" "_law_less" (defArgs s_law_less) (defBody s_law_less) (defScope s_law_less) [] [] (He.ga K "_law_less") fd
  g_law_less : mg "_law_less" = some (.ref (He.ga K "_law_less"))
  d_law_fells : ∃ fd, FunD K "_law_fells" "_law_fells" (defArgs s_law_fells) (defBody s_law_fells) (defScope s_law_fells) [] [] (He.ga K "_law_fells") fd
  g_law_fells : mg "_law_fells" = some (.ref (He.ga K "_law_fells"))
  d_law_is_least : ∃ fd, FunD K "_law_is_least" "_law_is_least" (defArgs s_law_is_least) (defBody s_law_is_least) (defScope s_law_is_least) [] [] (He.ga K "_law_is_least") fd
  g_law_is_least : mg "_law_is_least" = some (.ref (He.ga K "_law_is_least"))
  d_law : ∃ fd, FunD K "law" "law" (defArgs s_law) (defBody s_law) (defScope s_law) [] [] (He.ga K "law") fd
  g_law : mg "law" = some (.ref (He.ga K "law"))
  g_StoneError : mg "StoneError" = some (.ref (He.ga K "StoneError"))
  g_InvalidRow : mg "InvalidRow" = some (.ref (He.ga K "InvalidRow"))
  g_UnknownStone : mg "UnknownStone" = some (.ref (He.ga K "UnknownStone"))
  g_InvalidSide : mg "InvalidSide" = some (.ref (He.ga K "InvalidSide"))
  g_InvalidNumber : mg "InvalidNumber" = some (.ref (He.ga K "InvalidNumber"))
  g_Row : mg "Row" = some (.ref (He.ga K "Row"))
  c_Row : Cls K (He.ga K "Row")
  mk_Row : Mk K (He.ga K "Row") (He.ma K (He.ga K "Row") "__init__")
  sf_Row : PySem.W.selfFirst K (He.ga K "Row") = true
  na_Row_blocks : NoAttr K (He.ga K "Row") "blocks"
def h_InvalidRow_init : He5.DefA := ⟨fun K => He.ma K (He.ga K "InvalidRow") "__init__", "__init__", "InvalidRow.__init__", defArgs s_InvalidRow_init, defBody s_InvalidRow_init, defScope s_InvalidRow_init, [], []⟩
def h_is_integer : He5.DefA := ⟨fun K => He.ga K "is_integer", "is_integer", "is_integer", defArgs s_is_integer, defBody s_is_integer, defScope s_is_integer, [], []⟩
def h_is_stone : He5.DefA := ⟨fun K => He.ga K "is_stone", "is_stone", "is_stone", defArgs s_is_stone, defBody s_is_stone, defScope s_is_stone, [], []⟩
def h_check_side : He5.DefA := ⟨fun K => He.ga K "check_side", "check_side", "check_side", defArgs s_check_side, defBody s_check_side, defScope s_check_side, [], []⟩
def h_Row_init : He5.DefA := ⟨fun K => He.ma K (He.ga K "Row") "__init__", "__init__", "Row.__init__", defArgs s_Row_init, defBody s_Row_init, defScope s_Row_init, [], []⟩
def h_Row_stones : He5.DefA := ⟨fun K => HK.pg K (He.ga K "Row") "stones", "stones", "Row.stones", defArgs s_Row_stones, defBody s_Row_stones, defScope s_Row_stones, [], []⟩
def h_Row_places : He5.DefA := ⟨fun K => HK.pg K (He.ga K "Row") "places", "places", "Row.places", defArgs s_Row_places, defBody s_Row_places, defScope s_Row_places, [], []⟩
def h_Row_len : He5.DefA := ⟨fun K => He.ma K (He.ga K "Row") "__len__", "__len__", "Row.__len__", defArgs s_Row_len, defBody s_Row_len, defScope s_Row_len, [], []⟩
def h_Row_iter : He5.DefA := ⟨fun K => He.ma K (He.ga K "Row") "__iter__", "__iter__", "Row.__iter__", defArgs s_Row_iter, defBody s_Row_iter, defScope s_Row_iter, [], []⟩
def h_Row_check_stone : He5.DefA := ⟨fun K => He.ma K (He.ga K "Row") "check_stone", "check_stone", "Row.check_stone", defArgs s_Row_check_stone, defBody s_Row_check_stone, defScope s_Row_check_stone, [], []⟩
def h_Row_getitem : He5.DefA := ⟨fun K => He.ma K (He.ga K "Row") "__getitem__", "__getitem__", "Row.__getitem__", defArgs s_Row_getitem, defBody s_Row_getitem, defScope s_Row_getitem, [], []⟩
def h_Row_contains : He5.DefA := ⟨fun K => He.ma K (He.ga K "Row") "__contains__", "__contains__", "Row.__contains__", defArgs s_Row_contains, defBody s_Row_contains, defScope s_Row_contains, [], []⟩
def h_Row_eq : He5.DefA := ⟨fun K => He.ma K (He.ga K "Row") "__eq__", "__eq__", "Row.__eq__", defArgs s_Row_eq, defBody s_Row_eq, defScope s_Row_eq, [], []⟩
def h_Row_add : He5.DefA := ⟨fun K => He.ma K (He.ga K "Row") "__add__", "__add__", "Row.__add__", defArgs s_Row_add, defBody s_Row_add, defScope s_Row_add, [], []⟩
def h_Row_rshift : He5.DefA := ⟨fun K => He.ma K (He.ga K "Row") "__rshift__", "__rshift__", "Row.__rshift__", defArgs s_Row_rshift, defBody s_Row_rshift, defScope s_Row_rshift, [], []⟩
def h_Row_invert : He5.DefA := ⟨fun K => He.ma K (He.ga K "Row") "__invert__", "__invert__", "Row.__invert__", defArgs s_Row_invert, defBody s_Row_invert, defScope s_Row_invert, [], []⟩
def h_Row_call : He5.DefA := ⟨fun K => He.ma K (He.ga K "Row") "__call__", "__call__", "Row.__call__", defArgs s_Row_call, defBody s_Row_call, defScope s_Row_call, [], []⟩
def h_Row_without : He5.DefA := ⟨fun K => He.ma K (He.ga K "Row") "without", "without", "Row.without", defArgs s_Row_without, defBody s_Row_without, defScope s_Row_without, [], []⟩
def h_row_of : He5.DefA := ⟨fun K => He.ga K "row_of", "row_of", "row_of", defArgs s_row_of, defBody s_row_of, defScope s_row_of, [], []⟩
def h_moved : He5.DefA := ⟨fun K => He.ga K "moved", "moved", "moved", defArgs s_moved, defBody s_moved, defScope s_moved, [], []⟩
def h_mirrored : He5.DefA := ⟨fun K => He.ga K "mirrored", "mirrored", "mirrored", defArgs s_mirrored, defBody s_mirrored, defScope s_mirrored, [], []⟩
def h_right_end : He5.DefA := ⟨fun K => He.ga K "right_end", "right_end", "right_end", defArgs s_right_end, defBody s_right_end, defScope s_right_end, [], []⟩
def h_run_of : He5.DefA := ⟨fun K => He.ga K "run_of", "run_of", "run_of", defArgs s_run_of, defBody s_run_of, defScope s_run_of, [], []⟩
def h_taken_to_right : He5.DefA := ⟨fun K => He.ga K "taken_to_right", "taken_to_right", "taken_to_right", defArgs s_taken_to_right, defBody s_taken_to_right, defScope s_taken_to_right, [], []⟩
def h_fewest_taken : He5.DefA := ⟨fun K => He.ga K "fewest_taken", "fewest_taken", "fewest_taken", defArgs s_fewest_taken, defBody s_fewest_taken, defScope s_fewest_taken, [], []⟩
def h_spared_without : He5.DefA := ⟨fun K => He.ga K "spared_without", "spared_without", "spared_without", defArgs s_spared_without, defBody s_spared_without, defScope s_spared_without, [], []⟩
def h_law_taken : He5.DefA := ⟨fun K => He.ga K "_law_taken", "_law_taken", "_law_taken", defArgs s_law_taken, defBody s_law_taken, defScope s_law_taken, [], []⟩
def h_law_stones : He5.DefA := ⟨fun K => He.ga K "_law_stones", "_law_stones", "_law_stones", defArgs s_law_stones, defBody s_law_stones, defScope s_law_stones, [], []⟩
def h_law_row : He5.DefA := ⟨fun K => He.ga K "_law_row", "_law_row", "_law_row", defArgs s_law_row, defBody s_law_row, defScope s_law_row, [], []⟩
def h_law_less : He5.DefA := ⟨fun K => He.ga K "_law_less", "_law_less", "_law_less", defArgs s_law_less, defBody s_law_less, defScope s_law_less, [], []⟩
def h_law_fells : He5.DefA := ⟨fun K => He.ga K "_law_fells", "_law_fells", "_law_fells", defArgs s_law_fells, defBody s_law_fells, defScope s_law_fells, [], []⟩
def h_law_is_least : He5.DefA := ⟨fun K => He.ga K "_law_is_least", "_law_is_least", "_law_is_least", defArgs s_law_is_least, defBody s_law_is_least, defScope s_law_is_least, [], []⟩
def h_law : He5.DefA := ⟨fun K => He.ga K "law", "law", "law", defArgs s_law, defBody s_law, defScope s_law, [], []⟩
def hfn : List He5.DefA := [h_InvalidRow_init, h_is_integer, h_is_stone, h_check_side, h_Row_init, h_Row_stones, h_Row_places, h_Row_len, h_Row_iter, h_Row_check_stone, h_Row_getitem, h_Row_contains, h_Row_eq, h_Row_add, h_Row_rshift, h_Row_invert, h_Row_call, h_Row_without, h_row_of, h_moved, h_mirrored, h_right_end, h_run_of, h_taken_to_right, h_fewest_taken, h_spared_without, h_law_taken, h_law_stones, h_law_row, h_law_less, h_law_fells, h_law_is_least, h_law]
def hfa : List (PySem.W.Frag → Bool) := [
  (fun K => (He.Fa.free "len").ok K),
  (fun K => (He.Fa.free "range").ok K),
  (fun K => (He.Fa.free "sorted").ok K),
  (fun K => (He.Fa.free "set").ok K),
  (fun K => (He.Fa.free "min").ok K),
  (fun K => (He.Fa.free "max").ok K),
  (fun K => (He.Fa.free "int").ok K),
  (fun K => (He.Fa.free "isinstance").ok K),
  (fun K => (He.Fa.free "enumerate").ok K),
  (fun K => (He.Fa.free "tuple").ok K),
  (fun K => (He.Fa.free "str").ok K),
  (fun K => (He.Fa.free "bool").ok K),
  (fun K => (He.Fa.free "TypeError").ok K),
  (fun K => (He.Fa.free "ValueError").ok K),
  (fun K => (He.Fa.str "LEFT" "left").ok K),
  (fun K => (He.Fa.str "RIGHT" "right").ok K),
  (fun K => (He.Fa.glo "SIDES").ok K),
  (fun K => He.tupB K "SIDES" [.str "left", .str "right"]),
  (fun K => (He.Fa.int "MAX_STONES_rows" 40).ok K),
  (fun K => (He.Fa.int "MAX_PLACE" 1000000000).ok K),
  (fun K => (He.Fa.int "MAX_HEIGHT" 1000000000).ok K),
  (fun K => (He.Fa.glo "is_integer").ok K),
  (fun K => (He.Fa.glo "is_stone").ok K),
  (fun K => (He.Fa.glo "check_side").ok K),
  (fun K => (He.Fa.meth "Row" "__init__").ok K),
  (fun K => HK.propB K (He.ga K "Row") "stones"),
  (fun K => HK.propB K (He.ga K "Row") "places"),
  (fun K => (He.Fa.meth "Row" "__len__").ok K),
  (fun K => (He.Fa.meth "Row" "__iter__").ok K),
  (fun K => (He.Fa.meth "Row" "check_stone").ok K),
  (fun K => (He.Fa.meth "Row" "__getitem__").ok K),
  (fun K => (He.Fa.meth "Row" "__contains__").ok K),
  (fun K => (He.Fa.meth "Row" "__eq__").ok K),
  (fun K => (He.Fa.meth "Row" "__add__").ok K),
  (fun K => (He.Fa.meth "Row" "__rshift__").ok K),
  (fun K => (He.Fa.meth "Row" "__invert__").ok K),
  (fun K => (He.Fa.meth "Row" "__call__").ok K),
  (fun K => PySem.W.fnIn K (He.ma K (He.ga K "Row") "__call__")),
  (fun K => (He.Fa.meth "Row" "without").ok K),
  (fun K => (He.Fa.glo "row_of").ok K),
  (fun K => (He.Fa.glo "moved").ok K),
  (fun K => (He.Fa.glo "mirrored").ok K),
  (fun K => (He.Fa.glo "right_end").ok K),
  (fun K => (He.Fa.glo "run_of").ok K),
  (fun K => (He.Fa.glo "taken_to_right").ok K),
  (fun K => (He.Fa.glo "fewest_taken").ok K),
  (fun K => (He.Fa.glo "spared_without").ok K),
  (fun K => (He.Fa.glo "_law_taken").ok K),
  (fun K => (He.Fa.glo "_law_stones").ok K),
  (fun K => (He.Fa.glo "_law_row").ok K),
  (fun K => (He.Fa.glo "_law_less").ok K),
  (fun K => (He.Fa.glo "_law_fells").ok K),
  (fun K => (He.Fa.glo "_law_is_least").ok K),
  (fun K => (He.Fa.glo "law").ok K),
  (fun K => (He.Fa.glo "StoneError").ok K),
  (fun K => (He.Fa.glo "InvalidRow").ok K),
  (fun K => (He.Fa.glo "UnknownStone").ok K),
  (fun K => (He.Fa.glo "InvalidSide").ok K),
  (fun K => (He.Fa.glo "InvalidNumber").ok K),
  (fun K => (He.Fa.glo "Row").ok K),
  (fun K => (He.Fa.cls "Row").ok K),
  (fun K => (He.Fa.mkr "Row").ok K),
  (fun K => PySem.W.selfFirst K (He.ga K "Row")),
  (fun K => (He.Fa.noat "Row" "blocks").ok K)]
abbrev hR : PySem.W.OpenRow := PySem.W.OpenLaw.row PySem.Challenge.rw_rowdominoes_k17_whole_stones_that_are_ta
abbrev hhk : PySem.W.Hook := HK.hookM 6 hfa hfn
def hob (s : PySem.W.SharedT) : He.AlD := HK.obsMG 6 hfa hfn (HandSHeadRun.getT s)
theorem hob_eq (s : PySem.W.SharedT) : hob s = hhk.obs s.abs := HK.obsMG_eq (HandSHeadRun.getT_eq s)
def hloose0 : List Str := ["_wall", "StoneError", "InvalidRow", "UnknownStone", "InvalidSide", "InvalidNumber", "LEFT", "RIGHT", "SIDES", "MAX_STONES_rows", "MAX_PLACE", "MAX_HEIGHT", "is_integer", "is_stone", "check_side", "Row", "row_of", "moved", "mirrored", "right_end", "run_of", "taken_to_right", "fewest_taken", "spared_without", "_law_taken", "_law_stones", "_law_row", "_law_less", "_law_fells", "_law_is_least"]
def hloose : List Str := hloose0
theorem hrun (w : World) : HandSHeadRun.RunEq hR (PySem.W.view hR.prog [35]) hhk hob 12000 hloose w := by
  intro os
  kernel_rfl
theorem hTx {K : PySem.W.Frag} {h : Heap} {mg : Str → Option Value} (X : K.In h) (G : h.Ns mainGlobals mg) (c : HK.SaysM hfa hfn K) : Tx K mg where
  f_len := He.free_ok X G (c.fact 0 (f := (fun K => (He.Fa.free "len").ok K)) rfl)
  f_range := He.free_ok X G (c.fact 1 (f := (fun K => (He.Fa.free "range").ok K)) rfl)
  f_sorted := He.free_ok X G (c.fact 2 (f := (fun K => (He.Fa.free "sorted").ok K)) rfl)
  f_set := He.free_ok X G (c.fact 3 (f := (fun K => (He.Fa.free "set").ok K)) rfl)
  f_min := He.free_ok X G (c.fact 4 (f := (fun K => (He.Fa.free "min").ok K)) rfl)
  f_max := He.free_ok X G (c.fact 5 (f := (fun K => (He.Fa.free "max").ok K)) rfl)
  f_int := He.free_ok X G (c.fact 6 (f := (fun K => (He.Fa.free "int").ok K)) rfl)
  f_isinstance := He.free_ok X G (c.fact 7 (f := (fun K => (He.Fa.free "isinstance").ok K)) rfl)
  f_enumerate := He.free_ok X G (c.fact 8 (f := (fun K => (He.Fa.free "enumerate").ok K)) rfl)
  f_tuple := He.free_ok X G (c.fact 9 (f := (fun K => (He.Fa.free "tuple").ok K)) rfl)
  f_str := He.free_ok X G (c.fact 10 (f := (fun K => (He.Fa.free "str").ok K)) rfl)
  f_bool := He.free_ok X G (c.fact 11 (f := (fun K => (He.Fa.free "bool").ok K)) rfl)
  f_TypeError := He.free_ok X G (c.fact 12 (f := (fun K => (He.Fa.free "TypeError").ok K)) rfl)
  f_ValueError := He.free_ok X G (c.fact 13 (f := (fun K => (He.Fa.free "ValueError").ok K)) rfl)
  v_LEFT := He.str_ok X G (c.fact 14 (f := (fun K => (He.Fa.str "LEFT" "left").ok K)) rfl)
  v_RIGHT := He.str_ok X G (c.fact 15 (f := (fun K => (He.Fa.str "RIGHT" "right").ok K)) rfl)
  g_SIDES := He.glo_ok X G (c.fact 16 (f := (fun K => (He.Fa.glo "SIDES").ok K)) rfl)
  t_SIDES := fun H => He.tupB_ok (c.fact 17 (f := (fun K => He.tupB K "SIDES" [.str "left", .str "right"])) rfl) H
  v_MAX_STONES_rows := He.int_ok X G (c.fact 18 (f := (fun K => (He.Fa.int "MAX_STONES_rows" 40).ok K)) rfl)
  v_MAX_PLACE := He.int_ok X G (c.fact 19 (f := (fun K => (He.Fa.int "MAX_PLACE" 1000000000).ok K)) rfl)
  v_MAX_HEIGHT := He.int_ok X G (c.fact 20 (f := (fun K => (He.Fa.int "MAX_HEIGHT" 1000000000).ok K)) rfl)
  d_InvalidRow_init := c.def_ 0 (d := h_InvalidRow_init) rfl
  d_is_integer := c.def_ 1 (d := h_is_integer) rfl
  g_is_integer := He.glo_ok X G (c.fact 21 (f := (fun K => (He.Fa.glo "is_integer").ok K)) rfl)
  d_is_stone := c.def_ 2 (d := h_is_stone) rfl
  g_is_stone := He.glo_ok X G (c.fact 22 (f := (fun K => (He.Fa.glo "is_stone").ok K)) rfl)
  d_check_side := c.def_ 3 (d := h_check_side) rfl
  g_check_side := He.glo_ok X G (c.fact 23 (f := (fun K => (He.Fa.glo "check_side").ok K)) rfl)
  d_Row_init := c.def_ 4 (d := h_Row_init) rfl
  m_Row_init := He.meth_ok (c.fact 24 (f := (fun K => (He.Fa.meth "Row" "__init__").ok K)) rfl)
  d_Row_stones := c.def_ 5 (d := h_Row_stones) rfl
  p_Row_stones := HK.propB_ok (c.fact 25 (f := (fun K => HK.propB K (He.ga K "Row") "stones")) rfl)
  d_Row_places := c.def_ 6 (d := h_Row_places) rfl
  p_Row_places := HK.propB_ok (c.fact 26 (f := (fun K => HK.propB K (He.ga K "Row") "places")) rfl)
  d_Row_len := c.def_ 7 (d := h_Row_len) rfl
  m_Row_len := He.meth_ok (c.fact 27 (f := (fun K => (He.Fa.meth "Row" "__len__").ok K)) rfl)
  d_Row_iter := c.def_ 8 (d := h_Row_iter) rfl
  m_Row_iter := He.meth_ok (c.fact 28 (f := (fun K => (He.Fa.meth "Row" "__iter__").ok K)) rfl)
  d_Row_check_stone := c.def_ 9 (d := h_Row_check_stone) rfl
  m_Row_check_stone := He.meth_ok (c.fact 29 (f := (fun K => (He.Fa.meth "Row" "check_stone").ok K)) rfl)
  d_Row_getitem := c.def_ 10 (d := h_Row_getitem) rfl
  m_Row_getitem := He.meth_ok (c.fact 30 (f := (fun K => (He.Fa.meth "Row" "__getitem__").ok K)) rfl)
  d_Row_contains := c.def_ 11 (d := h_Row_contains) rfl
  m_Row_contains := He.meth_ok (c.fact 31 (f := (fun K => (He.Fa.meth "Row" "__contains__").ok K)) rfl)
  d_Row_eq := c.def_ 12 (d := h_Row_eq) rfl
  m_Row_eq := He.meth_ok (c.fact 32 (f := (fun K => (He.Fa.meth "Row" "__eq__").ok K)) rfl)
  d_Row_add := c.def_ 13 (d := h_Row_add) rfl
  m_Row_add := He.meth_ok (c.fact 33 (f := (fun K => (He.Fa.meth "Row" "__add__").ok K)) rfl)
  d_Row_rshift := c.def_ 14 (d := h_Row_rshift) rfl
  m_Row_rshift := He.meth_ok (c.fact 34 (f := (fun K => (He.Fa.meth "Row" "__rshift__").ok K)) rfl)
  d_Row_invert := c.def_ 15 (d := h_Row_invert) rfl
  m_Row_invert := He.meth_ok (c.fact 35 (f := (fun K => (He.Fa.meth "Row" "__invert__").ok K)) rfl)
  d_Row_call := c.def_ 16 (d := h_Row_call) rfl
  m_Row_call := He.meth_ok (c.fact 36 (f := (fun K => (He.Fa.meth "Row" "__call__").ok K)) rfl)
  fi_Row_call := c.fact 37 (f := (fun K => PySem.W.fnIn K (He.ma K (He.ga K "Row") "__call__"))) rfl
  d_Row_without := c.def_ 17 (d := h_Row_without) rfl
  m_Row_without := He.meth_ok (c.fact 38 (f := (fun K => (He.Fa.meth "Row" "without").ok K)) rfl)
  d_row_of := c.def_ 18 (d := h_row_of) rfl
  g_row_of := He.glo_ok X G (c.fact 39 (f := (fun K => (He.Fa.glo "row_of").ok K)) rfl)
  d_moved := c.def_ 19 (d := h_moved) rfl
  g_moved := He.glo_ok X G (c.fact 40 (f := (fun K => (He.Fa.glo "moved").ok K)) rfl)
  d_mirrored := c.def_ 20 (d := h_mirrored) rfl
  g_mirrored := He.glo_ok X G (c.fact 41 (f := (fun K => (He.Fa.glo "mirrored").ok K)) rfl)
  d_right_end := c.def_ 21 (d := h_right_end) rfl
  g_right_end := He.glo_ok X G (c.fact 42 (f := (fun K => (He.Fa.glo "right_end").ok K)) rfl)
  d_run_of := c.def_ 22 (d := h_run_of) rfl
  g_run_of := He.glo_ok X G (c.fact 43 (f := (fun K => (He.Fa.glo "run_of").ok K)) rfl)
  d_taken_to_right := c.def_ 23 (d := h_taken_to_right) rfl
  g_taken_to_right := He.glo_ok X G (c.fact 44 (f := (fun K => (He.Fa.glo "taken_to_right").ok K)) rfl)
  d_fewest_taken := c.def_ 24 (d := h_fewest_taken) rfl
  g_fewest_taken := He.glo_ok X G (c.fact 45 (f := (fun K => (He.Fa.glo "fewest_taken").ok K)) rfl)
  d_spared_without := c.def_ 25 (d := h_spared_without) rfl
  g_spared_without := He.glo_ok X G (c.fact 46 (f := (fun K => (He.Fa.glo "spared_without").ok K)) rfl)
  d_law_taken := c.def_ 26 (d := h_law_taken) rfl
  g_law_taken := He.glo_ok X G (c.fact 47 (f := (fun K => (He.Fa.glo "_law_taken").ok K)) rfl)
  d_law_stones := c.def_ 27 (d := h_law_stones) rfl
  g_law_stones := He.glo_ok X G (c.fact 48 (f := (fun K => (He.Fa.glo "_law_stones").ok K)) rfl)
  d_law_row := c.def_ 28 (d := h_law_row) rfl
  g_law_row := He.glo_ok X G (c.fact 49 (f := (fun K => (He.Fa.glo "_law_row").ok K)) rfl)
  d_law_less := c.def_ 29 (d := h_law_less) rfl
  g_law_less := He.glo_ok X G (c.fact 50 (f := (fun K => (He.Fa.glo "_law_less").ok K)) rfl)
  d_law_fells := c.def_ 30 (d := h_law_fells) rfl
  g_law_fells := He.glo_ok X G (c.fact 51 (f := (fun K => (He.Fa.glo "_law_fells").ok K)) rfl)
  d_law_is_least := c.def_ 31 (d := h_law_is_least) rfl
  g_law_is_least := He.glo_ok X G (c.fact 52 (f := (fun K => (He.Fa.glo "_law_is_least").ok K)) rfl)
  d_law := c.def_ 32 (d := h_law) rfl
  g_law := He.glo_ok X G (c.fact 53 (f := (fun K => (He.Fa.glo "law").ok K)) rfl)
  g_StoneError := He.glo_ok X G (c.fact 54 (f := (fun K => (He.Fa.glo "StoneError").ok K)) rfl)
  g_InvalidRow := He.glo_ok X G (c.fact 55 (f := (fun K => (He.Fa.glo "InvalidRow").ok K)) rfl)
  g_UnknownStone := He.glo_ok X G (c.fact 56 (f := (fun K => (He.Fa.glo "UnknownStone").ok K)) rfl)
  g_InvalidSide := He.glo_ok X G (c.fact 57 (f := (fun K => (He.Fa.glo "InvalidSide").ok K)) rfl)
  g_InvalidNumber := He.glo_ok X G (c.fact 58 (f := (fun K => (He.Fa.glo "InvalidNumber").ok K)) rfl)
  g_Row := He.glo_ok X G (c.fact 59 (f := (fun K => (He.Fa.glo "Row").ok K)) rfl)
  c_Row := He.cls_ok (c.fact 60 (f := (fun K => (He.Fa.cls "Row").ok K)) rfl)
  mk_Row := He.mkr_ok (c.fact 61 (f := (fun K => (He.Fa.mkr "Row").ok K)) rfl)
  sf_Row := c.fact 62 (f := (fun K => PySem.W.selfFirst K (He.ga K "Row"))) rfl
  na_Row_blocks := He.noat_ok (c.fact 63 (f := (fun K => (He.Fa.noat "Row" "blocks").ok K)) rfl)
-- law index 35
local macro_rules | `(tactic| walk_at "om") => `(tactic| first | omega | (simp only [List.length_map, List.length_reverse, List.length_append] at *; omega))
local macro_rules | `(tactic| walk_at "vis") => `(tactic| first | exact Or.inl rfl | exact Or.inr (Or.inl rfl) | exact Or.inr (Or.inr rfl))
local macro_rules | `(tactic| walk_at "asm") => `(tactic| assumption)
local macro_rules | `(tactic| walk_at "seq") => `(tactic| first | exact rfl | assumption | skip)
local macro_rules | `(tactic| walk_at "at0") => `(tactic| fail)
local macro_rules | `(tactic| walk_at "at") => `(tactic| first | exact rfl | assumption | walk_at "at0" | skip)
local macro_rules | `(tactic| walk_at "hR0") => `(tactic| fail)
local macro_rules | `(tactic| walk_at "hR") => `(tactic| first | walk_at "hR0" | skip)
local macro_rules | `(tactic| walk_at "alld") => `(tactic| first | with_reducible exact AllD.nil | with_reducible exact allD1 | with_reducible exact allD2 | with_reducible exact allD3 | with_reducible exact allD4 | with_reducible exact allD5 | with_reducible exact allD6)
local macro_rules | `(tactic| walk_at "args") => `(tactic| first | with_reducible exact ad_nil | ((with_reducible refine' ad_cons ?h1 ?h2 ?h3); (case' h3 => exact rfl); (case' h1 => walk_at "ev"); (case' h2 => walk_at "args")))
local macro_rules | `(tactic| walk_at "var") => `(tactic| ((with_reducible refine' ed_v ?q1 ?q2 ?q3 ?q4); (case' q1 => exact rfl); (case' q2 => walk_at "vis"); (case' q3 => exact rfl); (case' q4 => exact rfl)))
local macro_rules | `(tactic| walk_at "glo") => `(tactic| first | ((with_reducible refine' ed_gint ?q1 ?q2 ?q3); (case' q1 => assumption); (case' q2 => exact rfl); (case' q3 => exact rfl)) | ((with_reducible refine' ed_gstr ?q1 ?q2 ?q3); (case' q1 => assumption); (case' q2 => exact rfl); (case' q3 => exact rfl)) | ((with_reducible refine' ed_bty ?q1 ?q2 boot_int ?q3 ?q4); (case' q1 => assumption); (case' q2 => exact rfl); (case' q3 => decide); (case' q4 => exact rfl)) | ((with_reducible refine' ed_bty ?q1 ?q2 boot_bool ?q3 ?q4); (case' q1 => assumption); (case' q2 => exact rfl); (case' q3 => decide); (case' q4 => exact rfl)) | ((with_reducible refine' ed_bty ?q1 ?q2 boot_str ?q3 ?q4); (case' q1 => assumption); (case' q2 => exact rfl); (case' q3 => decide); (case' q4 => exact rfl)) | ((with_reducible refine' ed_bty ?q1 ?q2 boot_tuple ?q3 ?q4); (case' q1 => assumption); (case' q2 => exact rfl); (case' q3 => decide); (case' q4 => exact rfl)) | ((with_reducible refine' ed_bty ?q1 ?q2 boot_list ?q3 ?q4); (case' q1 => assumption); (case' q2 => exact rfl); (case' q3 => decide); (case' q4 => exact rfl)))
local macro_rules | `(tactic| walk_at "gcall") => `(tactic| ((with_reducible refine' ed_call ?q1 ?ha ?hd ?hR ?q2 ?q3 ?q4 ?q5); (case' q1 => assumption); (case' q2 => exact rfl); (case' q3 => exact rfl); (case' q4 => exact rfl); (case' q5 => exact rfl); (case' ha => walk_at "args"); (case' hd => walk_at "alld"); (case' hR => walk_at "hR")))
local macro_rules | `(tactic| walk_at "len0") => `(tactic| fail)
local macro_rules | `(tactic| walk_at "lenc") => `(tactic| first | exact cb_lenO rfl | exact cb_len (by first | exact rfl | assumption) | walk_at "len0")
local macro_rules | `(tactic| walk_at "len") => `(tactic| ((with_reducible refine' ed_blt ?h1 ?h2 ?q1 boot_len ?q2 ?q3 ?q4 ?q5 ?q6); (case' q1 => assumption); (case' q2 => exact rfl); (case' q3 => decide); (case' q4 => exact rfl); (case' q5 => exact rfl); (case' q6 => exact rfl); (case' h2 => walk_at "args"); (case' h1 => walk_at "lenc")))
local macro_rules | `(tactic| walk_at "max2") => `(tactic| ((with_reducible refine' ed_blt (cb_max2 ?k1) ?h2 ?q1 boot_max ?q2 ?q3 ?q4 ?q5 ?q6); (case' q1 => assumption); (case' q2 => exact rfl); (case' q3 => decide); (case' q4 => exact rfl); (case' q5 => exact rfl); (case' q6 => exact rfl); (case' h2 => walk_at "args"); (case' k1 => exact rfl)))
local macro_rules | `(tactic| walk_at "min2") => `(tactic| ((with_reducible refine' ed_blt (cb_min2 ?k1) ?h2 ?q1 boot_min ?q2 ?q3 ?q4 ?q5 ?q6); (case' q1 => assumption); (case' q2 => exact rfl); (case' q3 => decide); (case' q4 => exact rfl); (case' q5 => exact rfl); (case' q6 => exact rfl); (case' h2 => walk_at "args"); (case' k1 => exact rfl)))
local macro_rules | `(tactic| walk_at "isi") => `(tactic| ((with_reducible refine' ed_blt ?h1 ?h2 ?q1 boot_isinstance ?q2 ?q3 ?q4 ?q5 ?q6); (case' q1 => assumption); (case' q2 => exact rfl); (case' q3 => decide); (case' q4 => exact rfl); (case' q5 => exact rfl); (case' q6 => exact rfl); (case' h2 => walk_at "args"); (case' h1 => first | exact cb_isInt (by first | exact rfl | assumption) | exact cb_isBool (by first | exact rfl | assumption) | exact cb_isStr (by first | exact rfl | assumption) | exact cb_isTup (by first | exact rfl | assumption) | exact cb_isLst (by first | exact rfl | assumption))))
local macro_rules | `(tactic| walk_at "int") => `(tactic| ((with_reducible refine' ed_bty' ?h1 ?h2 ?q1 boot_int ?q2 ?q3 ?q4 ?q5 ?q6); (case' q1 => assumption); (case' q2 => exact rfl); (case' q3 => decide); (case' q4 => exact rfl); (case' q5 => exact rfl); (case' q6 => exact rfl); (case' h2 => walk_at "args"); (case' h1 => first | exact cb_intI | exact cb_intB)))
local macro_rules | `(tactic| walk_at "tuple") => `(tactic| ((with_reducible refine' ed_bty' ?h1 ?h2 ?q1 boot_tuple ?q2 ?q3 ?q4 ?q5 ?q6); (case' q1 => assumption); (case' q2 => exact rfl); (case' q3 => decide); (case' q4 => exact rfl); (case' q5 => exact rfl); (case' q6 => exact rfl); (case' h2 => walk_at "args"); (case' h1 => first | exact cb_tupL (by walk_at "sz") | skip)))
local macro_rules | `(tactic| walk_at "list") => `(tactic| ((with_reducible refine' ed_bty' ?h1 ?h2 ?q1 boot_list ?q2 ?q3 ?q4 ?q5 ?q6); (case' q1 => assumption); (case' q2 => exact rfl); (case' q3 => decide); (case' q4 => exact rfl); (case' q5 => exact rfl); (case' q6 => exact rfl); (case' h2 => walk_at "args"); (case' h1 => first | exact cb_list (by first | exact rfl | assumption) | skip)))
local macro_rules | `(tactic| walk_at "sz") => `(tactic| first | decide | (rw [sizeLine_eq]; walk_at "om"))
local macro_rules | `(tactic| walk_at "call0") => `(tactic| fail)
local macro_rules | `(tactic| walk_at "call") => `(tactic| first | walk_at "gcall" | walk_at "len" | walk_at "max2" | walk_at "min2" | walk_at "isi" | walk_at "int" | walk_at "tuple" | walk_at "list" | walk_at "call0" | walk_at "make" | walk_at "meth" | walk_at "callO")
local macro_rules | `(tactic| walk_at "fld0") => `(tactic| first | ((with_reducible refine' ed_fld 0 ?h1 ?c ?na ?q1 ?q2 ?nd ?hb); (case' h1 => walk_at "ev"); (case' q1 => exact rfl); (case' q2 => exact rfl); (case' c => assumption); (case' na => assumption); (case' nd => decide); (case' hb => exact rfl)) | ((with_reducible refine' ed_fld 1 ?h1 ?c ?na ?q1 ?q2 ?nd ?hb); (case' h1 => walk_at "ev"); (case' q1 => exact rfl); (case' q2 => exact rfl); (case' c => assumption); (case' na => assumption); (case' nd => decide); (case' hb => exact rfl)))
local macro_rules | `(tactic| walk_at "meth") => `(tactic| first | ((with_reducible refine' ed_meth ?F ?ho ?ha ?hd ?hR ?hm ?q1 ?q2 ?q3); (case' q1 => exact rfl); (case' q2 => exact rfl); (case' q3 => exact rfl); (case' ho => walk_at "ev"); (case' F => assumption); (case' hm => decide); (case' ha => walk_at "args"); (case' hd => walk_at "alld"); (case' hR => walk_at "hR")) | ((with_reducible refine' ed_meth0 ?F ?ho ?hR ?hm ?q3); (case' q3 => exact rfl); (case' ho => walk_at "ev"); (case' F => assumption); (case' hm => decide); (case' hR => walk_at "hR")))
local macro_rules | `(tactic| walk_at "callO") => `(tactic| ((with_reducible refine' ed_callO ?F ?ho ?ha ?hd ?hR ?q1 ?q2 ?q3); (case' q1 => exact rfl); (case' q2 => exact rfl); (case' q3 => exact rfl); (case' ho => walk_at "ev"); (case' F => assumption); (case' ha => walk_at "args"); (case' hd => walk_at "alld"); (case' hR => walk_at "hR")))
local macro_rules | `(tactic| walk_at "binO") => `(tactic| ((with_reducible refine' ed_binO ?F ?ha ?hb ?hR); (case' ha => walk_at "ev"); (case' hb => walk_at "ev"); (case' F => assumption); (case' hR => walk_at "hR")))
local macro_rules | `(tactic| walk_at "odd") => `(tactic| first | assumption | skip)
local macro_rules | `(tactic| walk_at "make") => `(tactic| first | ((with_reducible refine' ed_make ?F ?ha ?hd ?hR ?ho ?q1 ?q2 ?q3 ?q4); (case' F => assumption); (case' q1 => exact rfl); (case' q2 => exact rfl); (case' q3 => exact rfl); (case' q4 => exact rfl); (case' ha => walk_at "args"); (case' hd => walk_at "alld"); (case' hR => walk_at "hR"); (case' ho => walk_at "odd")) | ((with_reducible refine' ed_make0 ?F ?hR ?ho ?q1 ?q2); (case' F => assumption); (case' q1 => exact rfl); (case' q2 => exact rfl); (case' hR => walk_at "hR"); (case' ho => walk_at "odd")) | ((with_reducible refine' ed_makeS ?F ?ha ?hu ?hR ?ho ?q1 ?q2 ?q3); (case' F => assumption); (case' q1 => exact rfl); (case' q2 => exact rfl); (case' q3 => exact rfl); (case' ha => walk_at "ev"); (case' hu => walk_at "seq"); (case' hR => walk_at "hR"); (case' ho => walk_at "odd")))
local macro_rules | `(tactic| walk_at "ix") => `(tactic| first | ((with_reducible refine' ed_ix ?ha ?hb ?hu ?hi ?hs); (case' hs => exact fun _ _ => rfl); (case' ha => walk_at "ev"); (case' hb => walk_at "ev"); (case' hu => walk_at "seq"); (case' hi => walk_at "at")) | ((with_reducible refine' ed_ixO ?ha ?hb ?hu ?hi ?hs); (case' hs => exact fun _ _ => rfl); (case' ha => walk_at "ev"); (case' hb => walk_at "ev"); (case' hu => exact rfl); (case' hi => walk_at "at")))
local macro_rules | `(tactic| walk_at "ev") => `(tactic| first
  | with_reducible exact ed_int
  | walk_at "var"
  | with_reducible exact ed_str
  | with_reducible exact ed_bl
  | with_reducible exact ed_non
  | walk_at "glo"
  | ((with_reducible refine' ed_add ?ha ?hb); (case' ha => walk_at "ev"); (case' hb => walk_at "ev"))
  | ((with_reducible refine' ed_sub ?ha ?hb); (case' ha => walk_at "ev"); (case' hb => walk_at "ev"))
  | walk_at "ix"
  | ((with_reducible refine' ed_neg ?ha); (case' ha => walk_at "ev"))
  | ((with_reducible refine' ed_mul ?ha ?hb ?hc); (case' ha => walk_at "ev"); (case' hb => walk_at "ev"); (case' hc => first | (refine Or.inr ⟨?_, ?_⟩ <;> omega) | (refine Or.inl ⟨?_, ?_⟩ <;> omega) | skip))
  | ((with_reducible refine' ed_mod ?ha ?hb ?hc); (case' ha => walk_at "ev"); (case' hb => walk_at "ev"); (case' hc => first | decide | omega | skip))
  | ((with_reducible refine' ed_fdiv ?ha ?hb ?hc); (case' ha => walk_at "ev"); (case' hb => walk_at "ev"); (case' hc => first | decide | (constructor <;> omega) | skip))
  | ((with_reducible refine' ed_pow ?ha ?hb ?hc); (case' ha => walk_at "ev"); (case' hb => walk_at "ev"); (case' hc => first | (refine ⟨?_, ?_, ?_⟩ <;> decide) | skip))
  | ((with_reducible refine' ed_tup ?ha ?hd ?hz); (case' ha => walk_at "args"); (case' hd => walk_at "alld"); (case' hz => (rw [sizeLine_eq]; exact Nat.le_of_ble_eq_true rfl)))
  | walk_at "fld0"
  | walk_at "call"
  | ((with_reducible refine' ed_and ?ha ?hb); (case' ha => walk_at "ev"); (case' hb => (intro hP; first | exact (absurd hP (by decide) : ED _ _ _ (VD.d (D.bl false)) _) | walk_at "ev")))
  | ((with_reducible refine' ed_or ?ha ?hb); (case' ha => walk_at "ev"); (case' hb => (intro hP; walk_at "ev")))
  | ((with_reducible refine' ed_one ?ha); (case' ha => walk_at "ev"))
  | ((with_reducible refine' ed_not ?ha); (case' ha => walk_at "ev"))
  | ((with_reducible refine' ed_lele ?ha ?hb ?hc ?hm); (case' hm => exact rfl); (case' ha => walk_at "ev"); (case' hb => walk_at "ev"); (case' hc => walk_at "ev"))
  | ((with_reducible refine' ed_lt ?ha ?hb); (case' ha => walk_at "ev"); (case' hb => walk_at "ev"))
  | ((with_reducible refine' ed_le ?ha ?hb); (case' ha => walk_at "ev"); (case' hb => walk_at "ev"))
  | ((with_reducible refine' ed_gt ?ha ?hb); (case' ha => walk_at "ev"); (case' hb => walk_at "ev"))
  | ((with_reducible refine' ed_ge ?ha ?hb); (case' ha => walk_at "ev"); (case' hb => walk_at "ev"))
  | ((with_reducible refine' ed_lst ?ha ?hd ?hz); (case' ha => walk_at "args"); (case' hd => walk_at "alld"); (case' hz => (rw [sizeLine_eq]; exact Nat.le_of_ble_eq_true rfl)))
  | ((with_reducible refine' ed_revT ?ha); (case' ha => walk_at "ev"))
  | ((with_reducible refine' ed_revL ?ha); (case' ha => walk_at "ev"))
  | ((with_reducible refine' ed_catT ?ha ?hb ?hz); (case' ha => walk_at "ev"); (case' hb => walk_at "ev"); (case' hz => first | walk_at "sz" | skip))
  | walk_at "binO"
  | walk_at "ev0")
local macro_rules | `(tactic| walk_at "ev0") => `(tactic| fail)
local macro_rules | `(tactic| walk_at "te0") => `(tactic| fail)
local macro_rules | `(tactic| walk_at "te") => `(tactic| first
  | walk_at "te0"
  | ((with_reducible refine' td_lt ?ha ?hb); (case' ha => walk_at "ev"); (case' hb => walk_at "ev"))
  | ((with_reducible refine' td_le ?ha ?hb); (case' ha => walk_at "ev"); (case' hb => walk_at "ev"))
  | ((with_reducible refine' td_gt ?ha ?hb); (case' ha => walk_at "ev"); (case' hb => walk_at "ev"))
  | ((with_reducible refine' td_ge ?ha ?hb); (case' ha => walk_at "ev"); (case' hb => walk_at "ev"))
  | ((with_reducible refine' td_lele ?ha ?hb ?hc ?hm); (case' hm => exact rfl); (case' ha => walk_at "ev"); (case' hb => walk_at "ev"); (case' hc => walk_at "ev"))
  | ((with_reducible refine' td_not ?ha); (case' ha => walk_at "te"))
  | ((with_reducible refine' td_isN ?ha); (case' ha => walk_at "ev"))
  | ((with_reducible refine' td_notN ?ha); (case' ha => walk_at "ev"))
  | walk_at "eqc"
  | ((with_reducible refine' TW.td ?ha); (case' ha => walk_at "tw"))
  | ((with_reducible refine' td_val ?ha ?hq); (case' hq => exact fun _ => rfl); (case' ha => walk_at "ev")))
local macro_rules | `(tactic| walk_at "eqc") => `(tactic| first | ((with_reducible refine' td_eqI ?ha ?hb); (case' ha => walk_at "ev"); (case' hb => walk_at "ev")) | ((with_reducible refine' td_neI ?ha ?hb); (case' ha => walk_at "ev"); (case' hb => walk_at "ev")) | ((with_reducible refine' td_eqS ?ha ?hb ?hs); (case' ha => walk_at "ev"); (case' hb => walk_at "ev"); (case' hs => exact rfl)) | ((with_reducible refine' td_neS ?ha ?hb ?hs); (case' ha => walk_at "ev"); (case' hb => walk_at "ev"); (case' hs => exact rfl)) | ((with_reducible refine' td_in ?ha ?hb ?hu ?hm); (case' hm => exact rfl); (case' ha => walk_at "ev"); (case' hb => walk_at "ev"); (case' hu => walk_at "seq")) | ((with_reducible refine' td_nin ?ha ?hb ?hu ?hm); (case' hm => exact rfl); (case' ha => walk_at "ev"); (case' hb => walk_at "ev"); (case' hu => walk_at "seq")))
local macro_rules | `(tactic| walk_at "tw") => `(tactic| first | ((with_reducible refine' tw_and1 ?ha); (case' ha => walk_at "te")) | ((with_reducible refine' tw_or1 ?ha); (case' ha => walk_at "te")) | ((with_reducible refine' tw_and ?ha ?hb); (case' ha => walk_at "te"); (case' hb => (intro hP; first | (have hP := of_decide_eq_true hP; walk_at "tw") | walk_at "tw"))) | ((with_reducible refine' tw_or ?ha ?hb); (case' ha => walk_at "te"); (case' hb => (intro hP; first | (have hP := of_decide_eq_false hP; walk_at "tw") | walk_at "tw"))))
local macro_rules | `(tactic| walk_at "nd") => `(tactic| assumption)
local macro_rules | `(tactic| walk_at "loc") => `(tactic| first | exact Or.inl rfl | exact Or.inr rfl)
local macro_rules | `(tactic| walk_at "ret") => `(tactic| ((refine' sds_ret ?h1 ?h2); (case' h1 => walk_at "ev")))
local macro_rules | `(tactic| walk_at "expr") => `(tactic| ((refine' sds_expr ?h1 ?h2 ?h3); (case' h3 => exact rfl); (case' h1 => walk_at "ev")))
local macro_rules | `(tactic| walk_at "if") => `(tactic| ((refine' sds_if ?h1 ?h2 ?h3); (case' h1 => walk_at "te")))
local macro_rules | `(tactic| walk_at "six") => `(tactic| ((refine' sds_setIx ?hv ?ho ?hi ?hw ?hj ?h ?a1 ?a2 ?a3 ?a4); (case' a1 => exact fun _ => rfl); (case' a2 => exact rfl); (case' a3 => exact rfl); (case' a4 => exact rfl); (case' hv => walk_at "ev"); (case' ho => walk_at "var"); (case' hi => walk_at "ev"); (case' hw => exact rfl); (case' hj => exact rfl)))
local macro_rules | `(tactic| walk_at "set 0") => `(tactic| ((refine' sds_set 0 ?h1 ?h2 ?q1 ?q2 ?q3 ?q4 ?q5); (case' q1 => walk_at "nd"); (case' q2 => exact rfl); (case' q3 => walk_at "loc"); (case' q4 => exact rfl); (case' q5 => walk_at "loc"); (case' h1 => walk_at "ev")))
local macro_rules | `(tactic| walk_at "inc 0") => `(tactic| ((refine' sds_augI 0 ip_add ?q0 ?h1 ?h2 ?q1 ?q2 ?q3 ?q5); (case' q0 => exact rfl); (case' q1 => walk_at "nd"); (case' q2 => exact rfl); (case' q3 => walk_at "loc"); (case' q5 => walk_at "loc"); (case' h1 => walk_at "ev")))
local macro_rules | `(tactic| walk_at "nm 0") => `(tactic| ((with_reducible refine' gd_name 0 ?q1 ?q2 ?q3 ?q4); (case' q1 => walk_at "nd"); (case' q2 => exact rfl); (case' q3 => walk_at "loc"); (case' q4 => walk_at "loc")))
local macro_rules | `(tactic| walk_at "set 1") => `(tactic| ((refine' sds_set 1 ?h1 ?h2 ?q1 ?q2 ?q3 ?q4 ?q5); (case' q1 => walk_at "nd"); (case' q2 => exact rfl); (case' q3 => walk_at "loc"); (case' q4 => exact rfl); (case' q5 => walk_at "loc"); (case' h1 => walk_at "ev")))
local macro_rules | `(tactic| walk_at "inc 1") => `(tactic| ((refine' sds_augI 1 ip_add ?q0 ?h1 ?h2 ?q1 ?q2 ?q3 ?q5); (case' q0 => exact rfl); (case' q1 => walk_at "nd"); (case' q2 => exact rfl); (case' q3 => walk_at "loc"); (case' q5 => walk_at "loc"); (case' h1 => walk_at "ev")))
local macro_rules | `(tactic| walk_at "nm 1") => `(tactic| ((with_reducible refine' gd_name 1 ?q1 ?q2 ?q3 ?q4); (case' q1 => walk_at "nd"); (case' q2 => exact rfl); (case' q3 => walk_at "loc"); (case' q4 => walk_at "loc")))
local macro_rules | `(tactic| walk_at "set 2") => `(tactic| ((refine' sds_set 2 ?h1 ?h2 ?q1 ?q2 ?q3 ?q4 ?q5); (case' q1 => walk_at "nd"); (case' q2 => exact rfl); (case' q3 => walk_at "loc"); (case' q4 => exact rfl); (case' q5 => walk_at "loc"); (case' h1 => walk_at "ev")))
local macro_rules | `(tactic| walk_at "inc 2") => `(tactic| ((refine' sds_augI 2 ip_add ?q0 ?h1 ?h2 ?q1 ?q2 ?q3 ?q5); (case' q0 => exact rfl); (case' q1 => walk_at "nd"); (case' q2 => exact rfl); (case' q3 => walk_at "loc"); (case' q5 => walk_at "loc"); (case' h1 => walk_at "ev")))
local macro_rules | `(tactic| walk_at "nm 2") => `(tactic| ((with_reducible refine' gd_name 2 ?q1 ?q2 ?q3 ?q4); (case' q1 => walk_at "nd"); (case' q2 => exact rfl); (case' q3 => walk_at "loc"); (case' q4 => walk_at "loc")))
local macro_rules | `(tactic| walk_at "set 3") => `(tactic| ((refine' sds_set 3 ?h1 ?h2 ?q1 ?q2 ?q3 ?q4 ?q5); (case' q1 => walk_at "nd"); (case' q2 => exact rfl); (case' q3 => walk_at "loc"); (case' q4 => exact rfl); (case' q5 => walk_at "loc"); (case' h1 => walk_at "ev")))
local macro_rules | `(tactic| walk_at "inc 3") => `(tactic| ((refine' sds_augI 3 ip_add ?q0 ?h1 ?h2 ?q1 ?q2 ?q3 ?q5); (case' q0 => exact rfl); (case' q1 => walk_at "nd"); (case' q2 => exact rfl); (case' q3 => walk_at "loc"); (case' q5 => walk_at "loc"); (case' h1 => walk_at "ev")))
local macro_rules | `(tactic| walk_at "nm 3") => `(tactic| ((with_reducible refine' gd_name 3 ?q1 ?q2 ?q3 ?q4); (case' q1 => walk_at "nd"); (case' q2 => exact rfl); (case' q3 => walk_at "loc"); (case' q4 => walk_at "loc")))
local macro_rules | `(tactic| walk_at "set 4") => `(tactic| ((refine' sds_set 4 ?h1 ?h2 ?q1 ?q2 ?q3 ?q4 ?q5); (case' q1 => walk_at "nd"); (case' q2 => exact rfl); (case' q3 => walk_at "loc"); (case' q4 => exact rfl); (case' q5 => walk_at "loc"); (case' h1 => walk_at "ev")))
local macro_rules | `(tactic| walk_at "inc 4") => `(tactic| ((refine' sds_augI 4 ip_add ?q0 ?h1 ?h2 ?q1 ?q2 ?q3 ?q5); (case' q0 => exact rfl); (case' q1 => walk_at "nd"); (case' q2 => exact rfl); (case' q3 => walk_at "loc"); (case' q5 => walk_at "loc"); (case' h1 => walk_at "ev")))
local macro_rules | `(tactic| walk_at "nm 4") => `(tactic| ((with_reducible refine' gd_name 4 ?q1 ?q2 ?q3 ?q4); (case' q1 => walk_at "nd"); (case' q2 => exact rfl); (case' q3 => walk_at "loc"); (case' q4 => walk_at "loc")))
local macro_rules | `(tactic| walk_at "set 5") => `(tactic| ((refine' sds_set 5 ?h1 ?h2 ?q1 ?q2 ?q3 ?q4 ?q5); (case' q1 => walk_at "nd"); (case' q2 => exact rfl); (case' q3 => walk_at "loc"); (case' q4 => exact rfl); (case' q5 => walk_at "loc"); (case' h1 => walk_at "ev")))
local macro_rules | `(tactic| walk_at "inc 5") => `(tactic| ((refine' sds_augI 5 ip_add ?q0 ?h1 ?h2 ?q1 ?q2 ?q3 ?q5); (case' q0 => exact rfl); (case' q1 => walk_at "nd"); (case' q2 => exact rfl); (case' q3 => walk_at "loc"); (case' q5 => walk_at "loc"); (case' h1 => walk_at "ev")))
local macro_rules | `(tactic| walk_at "nm 5") => `(tactic| ((with_reducible refine' gd_name 5 ?q1 ?q2 ?q3 ?q4); (case' q1 => walk_at "nd"); (case' q2 => exact rfl); (case' q3 => walk_at "loc"); (case' q4 => walk_at "loc")))
local macro_rules | `(tactic| walk_at "set 6") => `(tactic| ((refine' sds_set 6 ?h1 ?h2 ?q1 ?q2 ?q3 ?q4 ?q5); (case' q1 => walk_at "nd"); (case' q2 => exact rfl); (case' q3 => walk_at "loc"); (case' q4 => exact rfl); (case' q5 => walk_at "loc"); (case' h1 => walk_at "ev")))
local macro_rules | `(tactic| walk_at "inc 6") => `(tactic| ((refine' sds_augI 6 ip_add ?q0 ?h1 ?h2 ?q1 ?q2 ?q3 ?q5); (case' q0 => exact rfl); (case' q1 => walk_at "nd"); (case' q2 => exact rfl); (case' q3 => walk_at "loc"); (case' q5 => walk_at "loc"); (case' h1 => walk_at "ev")))
local macro_rules | `(tactic| walk_at "nm 6") => `(tactic| ((with_reducible refine' gd_name 6 ?q1 ?q2 ?q3 ?q4); (case' q1 => walk_at "nd"); (case' q2 => exact rfl); (case' q3 => walk_at "loc"); (case' q4 => walk_at "loc")))
local macro_rules | `(tactic| walk_at "set 7") => `(tactic| ((refine' sds_set 7 ?h1 ?h2 ?q1 ?q2 ?q3 ?q4 ?q5); (case' q1 => walk_at "nd"); (case' q2 => exact rfl); (case' q3 => walk_at "loc"); (case' q4 => exact rfl); (case' q5 => walk_at "loc"); (case' h1 => walk_at "ev")))
local macro_rules | `(tactic| walk_at "inc 7") => `(tactic| ((refine' sds_augI 7 ip_add ?q0 ?h1 ?h2 ?q1 ?q2 ?q3 ?q5); (case' q0 => exact rfl); (case' q1 => walk_at "nd"); (case' q2 => exact rfl); (case' q3 => walk_at "loc"); (case' q5 => walk_at "loc"); (case' h1 => walk_at "ev")))
local macro_rules | `(tactic| walk_at "nm 7") => `(tactic| ((with_reducible refine' gd_name 7 ?q1 ?q2 ?q3 ?q4); (case' q1 => walk_at "nd"); (case' q2 => exact rfl); (case' q3 => walk_at "loc"); (case' q4 => walk_at "loc")))
local macro_rules | `(tactic| walk_at "set 8") => `(tactic| ((refine' sds_set 8 ?h1 ?h2 ?q1 ?q2 ?q3 ?q4 ?q5); (case' q1 => walk_at "nd"); (case' q2 => exact rfl); (case' q3 => walk_at "loc"); (case' q4 => exact rfl); (case' q5 => walk_at "loc"); (case' h1 => walk_at "ev")))
local macro_rules | `(tactic| walk_at "inc 8") => `(tactic| ((refine' sds_augI 8 ip_add ?q0 ?h1 ?h2 ?q1 ?q2 ?q3 ?q5); (case' q0 => exact rfl); (case' q1 => walk_at "nd"); (case' q2 => exact rfl); (case' q3 => walk_at "loc"); (case' q5 => walk_at "loc"); (case' h1 => walk_at "ev")))
local macro_rules | `(tactic| walk_at "nm 8") => `(tactic| ((with_reducible refine' gd_name 8 ?q1 ?q2 ?q3 ?q4); (case' q1 => walk_at "nd"); (case' q2 => exact rfl); (case' q3 => walk_at "loc"); (case' q4 => walk_at "loc")))
local macro_rules | `(tactic| walk_at "set 9") => `(tactic| ((refine' sds_set 9 ?h1 ?h2 ?q1 ?q2 ?q3 ?q4 ?q5); (case' q1 => walk_at "nd"); (case' q2 => exact rfl); (case' q3 => walk_at "loc"); (case' q4 => exact rfl); (case' q5 => walk_at "loc"); (case' h1 => walk_at "ev")))
local macro_rules | `(tactic| walk_at "inc 9") => `(tactic| ((refine' sds_augI 9 ip_add ?q0 ?h1 ?h2 ?q1 ?q2 ?q3 ?q5); (case' q0 => exact rfl); (case' q1 => walk_at "nd"); (case' q2 => exact rfl); (case' q3 => walk_at "loc"); (case' q5 => walk_at "loc"); (case' h1 => walk_at "ev")))
local macro_rules | `(tactic| walk_at "nm 9") => `(tactic| ((with_reducible refine' gd_name 9 ?q1 ?q2 ?q3 ?q4); (case' q1 => walk_at "nd"); (case' q2 => exact rfl); (case' q3 => walk_at "loc"); (case' q4 => walk_at "loc")))
local macro_rules | `(tactic| walk_at "set 10") => `(tactic| ((refine' sds_set 10 ?h1 ?h2 ?q1 ?q2 ?q3 ?q4 ?q5); (case' q1 => walk_at "nd"); (case' q2 => exact rfl); (case' q3 => walk_at "loc"); (case' q4 => exact rfl); (case' q5 => walk_at "loc"); (case' h1 => walk_at "ev")))
local macro_rules | `(tactic| walk_at "inc 10") => `(tactic| ((refine' sds_augI 10 ip_add ?q0 ?h1 ?h2 ?q1 ?q2 ?q3 ?q5); (case' q0 => exact rfl); (case' q1 => walk_at "nd"); (case' q2 => exact rfl); (case' q3 => walk_at "loc"); (case' q5 => walk_at "loc"); (case' h1 => walk_at "ev")))
local macro_rules | `(tactic| walk_at "nm 10") => `(tactic| ((with_reducible refine' gd_name 10 ?q1 ?q2 ?q3 ?q4); (case' q1 => walk_at "nd"); (case' q2 => exact rfl); (case' q3 => walk_at "loc"); (case' q4 => walk_at "loc")))
local macro_rules | `(tactic| walk_at "set 11") => `(tactic| ((refine' sds_set 11 ?h1 ?h2 ?q1 ?q2 ?q3 ?q4 ?q5); (case' q1 => walk_at "nd"); (case' q2 => exact rfl); (case' q3 => walk_at "loc"); (case' q4 => exact rfl); (case' q5 => walk_at "loc"); (case' h1 => walk_at "ev")))
local macro_rules | `(tactic| walk_at "inc 11") => `(tactic| ((refine' sds_augI 11 ip_add ?q0 ?h1 ?h2 ?q1 ?q2 ?q3 ?q5); (case' q0 => exact rfl); (case' q1 => walk_at "nd"); (case' q2 => exact rfl); (case' q3 => walk_at "loc"); (case' q5 => walk_at "loc"); (case' h1 => walk_at "ev")))
local macro_rules | `(tactic| walk_at "nm 11") => `(tactic| ((with_reducible refine' gd_name 11 ?q1 ?q2 ?q3 ?q4); (case' q1 => walk_at "nd"); (case' q2 => exact rfl); (case' q3 => walk_at "loc"); (case' q4 => walk_at "loc")))
local macro_rules | `(tactic| walk_at "set 12") => `(tactic| ((refine' sds_set 12 ?h1 ?h2 ?q1 ?q2 ?q3 ?q4 ?q5); (case' q1 => walk_at "nd"); (case' q2 => exact rfl); (case' q3 => walk_at "loc"); (case' q4 => exact rfl); (case' q5 => walk_at "loc"); (case' h1 => walk_at "ev")))
local macro_rules | `(tactic| walk_at "inc 12") => `(tactic| ((refine' sds_augI 12 ip_add ?q0 ?h1 ?h2 ?q1 ?q2 ?q3 ?q5); (case' q0 => exact rfl); (case' q1 => walk_at "nd"); (case' q2 => exact rfl); (case' q3 => walk_at "loc"); (case' q5 => walk_at "loc"); (case' h1 => walk_at "ev")))
local macro_rules | `(tactic| walk_at "nm 12") => `(tactic| ((with_reducible refine' gd_name 12 ?q1 ?q2 ?q3 ?q4); (case' q1 => walk_at "nd"); (case' q2 => exact rfl); (case' q3 => walk_at "loc"); (case' q4 => walk_at "loc")))
local macro_rules | `(tactic| walk_at "set 13") => `(tactic| ((refine' sds_set 13 ?h1 ?h2 ?q1 ?q2 ?q3 ?q4 ?q5); (case' q1 => walk_at "nd"); (case' q2 => exact rfl); (case' q3 => walk_at "loc"); (case' q4 => exact rfl); (case' q5 => walk_at "loc"); (case' h1 => walk_at "ev")))
local macro_rules | `(tactic| walk_at "inc 13") => `(tactic| ((refine' sds_augI 13 ip_add ?q0 ?h1 ?h2 ?q1 ?q2 ?q3 ?q5); (case' q0 => exact rfl); (case' q1 => walk_at "nd"); (case' q2 => exact rfl); (case' q3 => walk_at "loc"); (case' q5 => walk_at "loc"); (case' h1 => walk_at "ev")))
local macro_rules | `(tactic| walk_at "nm 13") => `(tactic| ((with_reducible refine' gd_name 13 ?q1 ?q2 ?q3 ?q4); (case' q1 => walk_at "nd"); (case' q2 => exact rfl); (case' q3 => walk_at "loc"); (case' q4 => walk_at "loc")))
local macro_rules | `(tactic| walk_at "set 14") => `(tactic| ((refine' sds_set 14 ?h1 ?h2 ?q1 ?q2 ?q3 ?q4 ?q5); (case' q1 => walk_at "nd"); (case' q2 => exact rfl); (case' q3 => walk_at "loc"); (case' q4 => exact rfl); (case' q5 => walk_at "loc"); (case' h1 => walk_at "ev")))
local macro_rules | `(tactic| walk_at "inc 14") => `(tactic| ((refine' sds_augI 14 ip_add ?q0 ?h1 ?h2 ?q1 ?q2 ?q3 ?q5); (case' q0 => exact rfl); (case' q1 => walk_at "nd"); (case' q2 => exact rfl); (case' q3 => walk_at "loc"); (case' q5 => walk_at "loc"); (case' h1 => walk_at "ev")))
local macro_rules | `(tactic| walk_at "nm 14") => `(tactic| ((with_reducible refine' gd_name 14 ?q1 ?q2 ?q3 ?q4); (case' q1 => walk_at "nd"); (case' q2 => exact rfl); (case' q3 => walk_at "loc"); (case' q4 => walk_at "loc")))
local macro_rules | `(tactic| walk_at "set 15") => `(tactic| ((refine' sds_set 15 ?h1 ?h2 ?q1 ?q2 ?q3 ?q4 ?q5); (case' q1 => walk_at "nd"); (case' q2 => exact rfl); (case' q3 => walk_at "loc"); (case' q4 => exact rfl); (case' q5 => walk_at "loc"); (case' h1 => walk_at "ev")))
local macro_rules | `(tactic| walk_at "inc 15") => `(tactic| ((refine' sds_augI 15 ip_add ?q0 ?h1 ?h2 ?q1 ?q2 ?q3 ?q5); (case' q0 => exact rfl); (case' q1 => walk_at "nd"); (case' q2 => exact rfl); (case' q3 => walk_at "loc"); (case' q5 => walk_at "loc"); (case' h1 => walk_at "ev")))
local macro_rules | `(tactic| walk_at "nm 15") => `(tactic| ((with_reducible refine' gd_name 15 ?q1 ?q2 ?q3 ?q4); (case' q1 => walk_at "nd"); (case' q2 => exact rfl); (case' q3 => walk_at "loc"); (case' q4 => walk_at "loc")))
local macro_rules | `(tactic| walk_at "set 16") => `(tactic| ((refine' sds_set 16 ?h1 ?h2 ?q1 ?q2 ?q3 ?q4 ?q5); (case' q1 => walk_at "nd"); (case' q2 => exact rfl); (case' q3 => walk_at "loc"); (case' q4 => exact rfl); (case' q5 => walk_at "loc"); (case' h1 => walk_at "ev")))
local macro_rules | `(tactic| walk_at "inc 16") => `(tactic| ((refine' sds_augI 16 ip_add ?q0 ?h1 ?h2 ?q1 ?q2 ?q3 ?q5); (case' q0 => exact rfl); (case' q1 => walk_at "nd"); (case' q2 => exact rfl); (case' q3 => walk_at "loc"); (case' q5 => walk_at "loc"); (case' h1 => walk_at "ev")))
local macro_rules | `(tactic| walk_at "nm 16") => `(tactic| ((with_reducible refine' gd_name 16 ?q1 ?q2 ?q3 ?q4); (case' q1 => walk_at "nd"); (case' q2 => exact rfl); (case' q3 => walk_at "loc"); (case' q4 => walk_at "loc")))
local macro_rules | `(tactic| walk_at "set 17") => `(tactic| ((refine' sds_set 17 ?h1 ?h2 ?q1 ?q2 ?q3 ?q4 ?q5); (case' q1 => walk_at "nd"); (case' q2 => exact rfl); (case' q3 => walk_at "loc"); (case' q4 => exact rfl); (case' q5 => walk_at "loc"); (case' h1 => walk_at "ev")))
local macro_rules | `(tactic| walk_at "inc 17") => `(tactic| ((refine' sds_augI 17 ip_add ?q0 ?h1 ?h2 ?q1 ?q2 ?q3 ?q5); (case' q0 => exact rfl); (case' q1 => walk_at "nd"); (case' q2 => exact rfl); (case' q3 => walk_at "loc"); (case' q5 => walk_at "loc"); (case' h1 => walk_at "ev")))
local macro_rules | `(tactic| walk_at "nm 17") => `(tactic| ((with_reducible refine' gd_name 17 ?q1 ?q2 ?q3 ?q4); (case' q1 => walk_at "nd"); (case' q2 => exact rfl); (case' q3 => walk_at "loc"); (case' q4 => walk_at "loc")))
local macro_rules | `(tactic| walk_at "set 18") => `(tactic| ((refine' sds_set 18 ?h1 ?h2 ?q1 ?q2 ?q3 ?q4 ?q5); (case' q1 => walk_at "nd"); (case' q2 => exact rfl); (case' q3 => walk_at "loc"); (case' q4 => exact rfl); (case' q5 => walk_at "loc"); (case' h1 => walk_at "ev")))
local macro_rules | `(tactic| walk_at "inc 18") => `(tactic| ((refine' sds_augI 18 ip_add ?q0 ?h1 ?h2 ?q1 ?q2 ?q3 ?q5); (case' q0 => exact rfl); (case' q1 => walk_at "nd"); (case' q2 => exact rfl); (case' q3 => walk_at "loc"); (case' q5 => walk_at "loc"); (case' h1 => walk_at "ev")))
local macro_rules | `(tactic| walk_at "nm 18") => `(tactic| ((with_reducible refine' gd_name 18 ?q1 ?q2 ?q3 ?q4); (case' q1 => walk_at "nd"); (case' q2 => exact rfl); (case' q3 => walk_at "loc"); (case' q4 => walk_at "loc")))
local macro_rules | `(tactic| walk_at "set 19") => `(tactic| ((refine' sds_set 19 ?h1 ?h2 ?q1 ?q2 ?q3 ?q4 ?q5); (case' q1 => walk_at "nd"); (case' q2 => exact rfl); (case' q3 => walk_at "loc"); (case' q4 => exact rfl); (case' q5 => walk_at "loc"); (case' h1 => walk_at "ev")))
local macro_rules | `(tactic| walk_at "inc 19") => `(tactic| ((refine' sds_augI 19 ip_add ?q0 ?h1 ?h2 ?q1 ?q2 ?q3 ?q5); (case' q0 => exact rfl); (case' q1 => walk_at "nd"); (case' q2 => exact rfl); (case' q3 => walk_at "loc"); (case' q5 => walk_at "loc"); (case' h1 => walk_at "ev")))
local macro_rules | `(tactic| walk_at "nm 19") => `(tactic| ((with_reducible refine' gd_name 19 ?q1 ?q2 ?q3 ?q4); (case' q1 => walk_at "nd"); (case' q2 => exact rfl); (case' q3 => walk_at "loc"); (case' q4 => walk_at "loc")))
local macro_rules | `(tactic| walk_at "set 20") => `(tactic| ((refine' sds_set 20 ?h1 ?h2 ?q1 ?q2 ?q3 ?q4 ?q5); (case' q1 => walk_at "nd"); (case' q2 => exact rfl); (case' q3 => walk_at "loc"); (case' q4 => exact rfl); (case' q5 => walk_at "loc"); (case' h1 => walk_at "ev")))
local macro_rules | `(tactic| walk_at "inc 20") => `(tactic| ((refine' sds_augI 20 ip_add ?q0 ?h1 ?h2 ?q1 ?q2 ?q3 ?q5); (case' q0 => exact rfl); (case' q1 => walk_at "nd"); (case' q2 => exact rfl); (case' q3 => walk_at "loc"); (case' q5 => walk_at "loc"); (case' h1 => walk_at "ev")))
local macro_rules | `(tactic| walk_at "nm 20") => `(tactic| ((with_reducible refine' gd_name 20 ?q1 ?q2 ?q3 ?q4); (case' q1 => walk_at "nd"); (case' q2 => exact rfl); (case' q3 => walk_at "loc"); (case' q4 => walk_at "loc")))
local macro_rules | `(tactic| walk_at "set 21") => `(tactic| ((refine' sds_set 21 ?h1 ?h2 ?q1 ?q2 ?q3 ?q4 ?q5); (case' q1 => walk_at "nd"); (case' q2 => exact rfl); (case' q3 => walk_at "loc"); (case' q4 => exact rfl); (case' q5 => walk_at "loc"); (case' h1 => walk_at "ev")))
local macro_rules | `(tactic| walk_at "inc 21") => `(tactic| ((refine' sds_augI 21 ip_add ?q0 ?h1 ?h2 ?q1 ?q2 ?q3 ?q5); (case' q0 => exact rfl); (case' q1 => walk_at "nd"); (case' q2 => exact rfl); (case' q3 => walk_at "loc"); (case' q5 => walk_at "loc"); (case' h1 => walk_at "ev")))
local macro_rules | `(tactic| walk_at "nm 21") => `(tactic| ((with_reducible refine' gd_name 21 ?q1 ?q2 ?q3 ?q4); (case' q1 => walk_at "nd"); (case' q2 => exact rfl); (case' q3 => walk_at "loc"); (case' q4 => walk_at "loc")))
local macro_rules | `(tactic| walk_at "set 22") => `(tactic| ((refine' sds_set 22 ?h1 ?h2 ?q1 ?q2 ?q3 ?q4 ?q5); (case' q1 => walk_at "nd"); (case' q2 => exact rfl); (case' q3 => walk_at "loc"); (case' q4 => exact rfl); (case' q5 => walk_at "loc"); (case' h1 => walk_at "ev")))
local macro_rules | `(tactic| walk_at "inc 22") => `(tactic| ((refine' sds_augI 22 ip_add ?q0 ?h1 ?h2 ?q1 ?q2 ?q3 ?q5); (case' q0 => exact rfl); (case' q1 => walk_at "nd"); (case' q2 => exact rfl); (case' q3 => walk_at "loc"); (case' q5 => walk_at "loc"); (case' h1 => walk_at "ev")))
local macro_rules | `(tactic| walk_at "nm 22") => `(tactic| ((with_reducible refine' gd_name 22 ?q1 ?q2 ?q3 ?q4); (case' q1 => walk_at "nd"); (case' q2 => exact rfl); (case' q3 => walk_at "loc"); (case' q4 => walk_at "loc")))
local macro_rules | `(tactic| walk_at "set 23") => `(tactic| ((refine' sds_set 23 ?h1 ?h2 ?q1 ?q2 ?q3 ?q4 ?q5); (case' q1 => walk_at "nd"); (case' q2 => exact rfl); (case' q3 => walk_at "loc"); (case' q4 => exact rfl); (case' q5 => walk_at "loc"); (case' h1 => walk_at "ev")))
local macro_rules | `(tactic| walk_at "inc 23") => `(tactic| ((refine' sds_augI 23 ip_add ?q0 ?h1 ?h2 ?q1 ?q2 ?q3 ?q5); (case' q0 => exact rfl); (case' q1 => walk_at "nd"); (case' q2 => exact rfl); (case' q3 => walk_at "loc"); (case' q5 => walk_at "loc"); (case' h1 => walk_at "ev")))
local macro_rules | `(tactic| walk_at "nm 23") => `(tactic| ((with_reducible refine' gd_name 23 ?q1 ?q2 ?q3 ?q4); (case' q1 => walk_at "nd"); (case' q2 => exact rfl); (case' q3 => walk_at "loc"); (case' q4 => walk_at "loc")))
/-! ### stones, rows -/
abbrev Stone := Int × Int
def stD (s : Stone) : D := .tup [.int s.1, .int s.2]
abbrev rowD (C : Addr) (l : List Stone) : D := .ins C ["blocks"] [.tup (l.map stD)]
def okSt (least : Int) : List Stone → Prop
  | [] => True
  | s :: r => least ≤ s.1 ∧ s.1 ≤ 1000000000 ∧ 1 ≤ s.2 ∧ s.2 ≤ 1000000000 ∧ okSt (s.1 + 1) r
def Valid (l : List Stone) : Prop := l.length ≤ 40 ∧ okSt 0 l
theorem atI_st {l : List Stone} {i : Int} (h0 : 0 ≤ i) (h : i < l.length) : atI (l.map stD) i = some (stD (l.getD i.toNat (0, 0))) := by
  have hlt : i.toNat < l.length := by omega
  unfold atI ixN
  rw [if_pos h0, if_pos (by rw [List.length_map]; exact h)]
  simp [hlt]
theorem atI_last' {l : List Stone} (h : 0 < l.length) : atI (l.map stD) (-1) = some (stD (l.getD (l.length - 1) (0, 0))) := by
  unfold atI ixN
  have e : ((-1 : Int) + ((l.map stD).length : Int)).toNat = l.length - 1 := by rw [List.length_map]; omega
  rw [if_neg (by decide), if_pos (by rw [List.length_map]; omega), e]
  have hlt : l.length - 1 < l.length := by omega
  simp [hlt]
def isIntD (v : D) (lo hi : Int) : Bool := match v with
  | .int i => decide (lo ≤ i) && decide (i ≤ hi)
  | _ => false
def R_isint : FSpec := fun xs os r os' => ∃ (v : D) (lo hi : Int), xs = [.d v, .d (.int lo), .d (.int hi)] ∧ os = [] ∧ os' = [] ∧ v.kd.isSome = true ∧ r = .bl (isIntD v lo hi)
theorem r_isint {v : D} {lo hi : Int} (h : v.kd.isSome = true) : R_isint [.d v, .d (.int lo), .d (.int hi)] [] (.bl (isIntD v lo hi)) [] := ⟨v, lo, hi, rfl, rfl, rfl, h, rfl⟩
section
variable {P : Program} {w : World} {K : PySem.W.Frag} {mg : Str → Option Value} {base : Heap}
theorem ok_isint (T : Tx K mg) : FnR P w K mg base CX0 1 (He.ga K "is_integer") (spF K R_isint) := by
  obtain ⟨fd, F⟩ := T.d_is_integer
  have hb : Binds K fd ["value", "low", "high"] [] := F.bindsN fun _ _ _ _ _ _ us hl => match us, hl with | [_, _, _], _ => rfl
  refine fn_D F sc_is_integer hb ?_ ?_
  · rintro xs os r os' ⟨v, lo, hi, rfl, rfl, rfl, _⟩
    exact ⟨rfl, rfl, by simp⟩
  · rintro cdv A outer s H E hr xs os r os' ⟨v, lo, hi, rfl, rfl, rfl, hv, rfl⟩ _
    have f1 := T.f_isinstance
    have f2 := T.f_int
    have f3 : mg "bool" = none := T.f_bool
    cases v with
    | int i =>
      walk_at "ret"
      exact ⟨rfl, rfl⟩
    | ref a => cases hv
    | ty a => cases hv
    | ins a b c => cases hv
    | _ =>
      walk_at "ret"
      exact ⟨rfl, rfl⟩
end
def isStoneD (v : D) (least : Int) : Bool := match v with
  | .tup [a, b] => isIntD a least 1000000000 && isIntD b 1 1000000000
  | _ => false
/-- what may be handed in as a stone -/
def StoneArg : D → Prop
  | .tup [a, b] => a.kd.isSome = true ∧ b.kd.isSome = true
  | .lst [a, b] => a.kd.isSome = true ∧ b.kd.isSome = true
  | .byt _ => False
  | .dic _ _ => False
  | v => v.kd.isSome = true
def R_isstone : FSpec := fun xs os r os' => ∃ (v : D) (least : Int), xs = [.d v, .d (.int least)] ∧ os = [] ∧ os' = [] ∧ StoneArg v ∧ r = .bl (isStoneD v least)
theorem r_isstone {v : D} {least : Int} (h : StoneArg v) : R_isstone [.d v, .d (.int least)] [] (.bl (isStoneD v least)) [] := ⟨v, least, rfl, rfl, rfl, h, rfl⟩
theorem stD_arg (s : Stone) : StoneArg (stD s) := ⟨rfl, rfl⟩
local macro_rules | `(tactic| walk_at "hR0") => `(tactic| first | exact r_isint (by first | exact rfl | assumption) | exact r_isstone (by first | exact stD_arg _ | assumption))
section
variable {P : Program} {w : World} {K : PySem.W.Frag} {mg : Str → Option Value} {base : Heap}
theorem ok_isstone (T : Tx K mg) : FnR P w K mg base CX0 2 (He.ga K "is_stone") (spF K R_isstone) := by
  obtain ⟨fd, F⟩ := T.d_is_stone
  have hb : Binds K fd ["value", "least"] [] := F.bindsN fun _ _ _ _ _ _ us hl => match us, hl with | [_, _], _ => rfl
  refine fn_D F sc_is_stone hb ?_ ?_
  · rintro xs os r os' ⟨v, least, rfl, rfl, rfl, _⟩
    exact ⟨rfl, rfl, by simp⟩
  · rintro cdv A outer s H E hr xs os r os' ⟨v, least, rfl, rfl, rfl, hv, rfl⟩ _
    have f1 := T.f_isinstance
    have f2 := T.f_tuple
    obtain ⟨t1, g1⟩ := T.v_MAX_PLACE
    obtain ⟨t2, g2⟩ := T.v_MAX_HEIGHT
    have nd := sc_is_stone.nd
    have c1 : CGs P w K mg base (A.deeper (envOfC "is_stone" (defScope s_is_stone) s.heap.objs.size (He.ga K "is_stone") cdv)) "is_integer" R_isint := ⟨_, _, ok_isint T, hr, T.g_is_integer, (let ⟨_, F⟩ := T.d_is_integer; F.kp)⟩
    have miss : ∀ v : D, v.miss = true → isStoneD v least = false → SDs (cxOf CX0 P w K mg base n_is_stone "is_stone" (defScope s_is_stone) (He.ga K "is_stone") cdv A outer s H E).nox (env0 n_is_stone [.d v, .d (.int least)] []) (defBody s_is_stone) (kn0 0 (.bl (isStoneD v least)) []) := by
      intro v hm he
      refine' sds_matchMiss (i := 2) (j := 3) ?h1 hm ?h2 rfl nd rfl rfl (.inl rfl) (.inl rfl) (.inl rfl) (.inl rfl)
      case h1 => walk_at "ev"
      case h2 =>
        walk_at "ret"
        exact ⟨by rw [he], rfl⟩
    have hit : ∀ (v a b : D) (k : Kd), v.seq? = some [a, b] → v.kd = some k → a.kd.isSome = true → b.kd.isSome = true → isStoneD v least = (k.isTup && (isIntD a least 1000000000 && isIntD b 1 1000000000)) → SDs (cxOf CX0 P w K mg base n_is_stone "is_stone" (defScope s_is_stone) (He.ga K "is_stone") cdv A outer s H E).nox (env0 n_is_stone [.d v, .d (.int least)] []) (defBody s_is_stone) (kn0 0 (.bl (isStoneD v least)) []) := by
      intro v a b k hs hk ha hb he
      refine' sds_matchHit 2 3 ?h1 hs ?h2 ?h3 ?h4 rfl nd rfl rfl (.inl rfl) (.inl rfl) (.inl rfl) (.inl rfl)
      case h1 => walk_at "ev"
      case h2 => walk_at "te"
      case h3 =>
        intro hp
        walk_at "ret"
        rw [he, hp]
        exact ⟨rfl, rfl⟩
      case h4 =>
        intro hp
        walk_at "ret"
        rw [he, hp]
        exact ⟨rfl, rfl⟩
    cases v with
    | non => exact miss _ rfl rfl
    | bl i => exact miss _ rfl rfl
    | int i => exact miss _ rfl rfl
    | str i => exact miss _ rfl rfl
    | byt i => exact hv.elim
    | dic a b => exact hv.elim
    | ref a => cases hv
    | ty a => cases hv
    | ins a b c => cases hv
    | lst ds =>
      match ds, hv with
      | [], _ => exact miss _ rfl rfl
      | [a], _ => exact miss _ rfl rfl
      | [a, b], hv => exact hit _ a b .lst rfl rfl hv.1 hv.2 rfl
      | a :: b :: c :: r, _ => exact miss _ (by simp [D.miss]) rfl
    | tup ds =>
      match ds, hv with
      | [], _ => exact miss _ rfl rfl
      | [a], _ => exact miss _ rfl rfl
      | [a, b], hv => exact hit _ a b .tup rfl rfl hv.1 hv.2 rfl
      | a :: b :: c :: r, _ => exact miss _ (by simp [D.miss]) rfl
end
local macro_rules | `(tactic| walk_at "hR0") => `(tactic| first | exact r_isint (by first | exact rfl | assumption) | exact r_isstone (by first | exact stD_arg _ | assumption))
local macro_rules | `(tactic| walk_at "at0") => `(tactic| first | exact atI_st (by walk_at "om") (by walk_at "om") | exact atI_last' (by walk_at "om"))
/-! ### a row is made -/
def R_init (C : Addr) : FSpec := fun xs os r os' => ∃ l : List Stone, xs = [.loc 0, .d (.tup (l.map stD))] ∧ os = [.ins C [] []] ∧ os' = [.ins C ["blocks"] [.d (.tup (l.map stD))]] ∧ Valid l ∧ r = .non
theorem okSt_drop : ∀ {l : List Stone} {i : Nat} {least : Int} {s : Stone}, okSt least (l.drop i) → l[i]? = some s → least ≤ s.1 ∧ s.1 ≤ 1000000000 ∧ 1 ≤ s.2 ∧ s.2 ≤ 1000000000 ∧ okSt (s.1 + 1) (l.drop (i + 1)) := by
  intro l i least s h e
  obtain ⟨hlt, he⟩ := List.getElem?_eq_some_iff.mp e
  rw [List.drop_eq_getElem_cons hlt, he] at h
  exact h
section
variable {P : Program} {w : World} {K : PySem.W.Frag} {mg : Str → Option Value} {base : Heap}
theorem ok_init (T : Tx K mg) : FnR P w K mg base CX0 3 (He.ma K (He.ga K "Row") "__init__") (spF K (starR (R_init (He.ga K "Row")))) := by
  obtain ⟨fd, F⟩ := T.d_Row_init
  refine fn_starD F sc_Row_init (fun _ _ _ _ _ _ _ => rfl) (fun _ _ _ _ _ _ _ _ _ => rfl) ?_ ?_
  · rintro xs os r os' ⟨l, rfl, rfl, rfl, _⟩
    exact ⟨rfl, rfl, by rintro o ho; simp at ho; subst ho; exact ⟨_, allD1⟩⟩
  · rintro cdv A outer s H E hr xs os r os' ⟨l, rfl, rfl, rfl, hv, rfl⟩ _
    have nd := sc_Row_init.nd
    have f1 := T.f_enumerate
    obtain ⟨t1, g1⟩ := T.v_MAX_STONES_rows
    have c1 : CGs P w K mg base (A.deeper (envOfC "Row.__init__" (defScope s_Row_init) s.heap.objs.size (He.ma K (He.ga K "Row") "__init__") cdv)) "is_stone" R_isstone := ⟨_, _, ok_isstone T, hr, T.g_is_stone, (let ⟨_, F⟩ := T.d_is_stone; F.kp)⟩
    walk_at "set 2"
    refine' sds_for (ds := enumD 0 (l.map stD)) ?hi (fun i ρ => ∃ (least : Int) (x y : Option VD), ρ = ⟨1, [some (.loc 0), some (.d (.tup (l.map stD))), some (.d (.int least)), x, y], [some (.ins (He.ga K "Row") [] [])]⟩ ∧ okSt least (l.drop i)) ?h0 ?hs ?hd PassesOwn.never rfl (fun _ => rfl)
    case hi =>
      refine' it_enum (u := .tup (l.map stD)) ?e1 rfl rfl f1
      case e1 => walk_at "ev"
    case h0 => exact ⟨0, none, none, rfl, hv.2⟩
    case hs =>
      rintro i d ρ hd ⟨least, x, y, rfl, hok⟩
      obtain ⟨u, hu, rfl⟩ := enumD_inv hd
      rw [List.getElem?_map] at hu
      obtain ⟨st, hst, rfl⟩ : ∃ st, l[i]? = some st ∧ stD st = u := by
        cases q : l[i]? with
        | none => rw [q] at hu; cases hu
        | some st => rw [q] at hu; exact ⟨st, rfl, by simpa using hu⟩
      obtain ⟨h1, h2, h3, h4, h5⟩ := okSt_drop hok hst
      have hil := (List.getElem?_eq_some_iff.mp hst).1
      refine' ⟨_, gd_tup (xs := []) rfl (gds_cons ?g1 (gds_cons ?g2 gds_nil rfl) rfl) rfl rfl rfl, ?_⟩
      case g1 => walk_at "nm 3"
      case g2 => walk_at "nm 4"
      refine' sds_if (p := false) ?b1 (fun z => nomatch z) ?b2
      case b1 =>
        refine' TD.to (TW.td ?b3) ?b4
        case b3 => walk_at "tw"
        case b4 =>
          have e1 : isStoneD (stD st) least = true := by simp [isStoneD, stD, isIntD, h1, h2, h3, h4]
          rw [e1]
          have hl := hv.1
          simp
          omega
      case b2 =>
        intro _
        refine sds_nil ?_
        walk_at "set 2"
        refine sds_nil ⟨st.1 + 1, _, _, rfl, h5⟩
    case hd =>
      rintro ρ ⟨least, x, y, rfl, _⟩
      refine' sds_fldN ?h1 ?h2 ?h4 ?h3 T.c_Row T.na_Row_blocks ?h5 ?h6 rfl
      case h1 => walk_at "ev"
      case h2 => walk_at "ev"
      case h4 => exact rfl
      case h5 => simp
      case h6 => decide
      case h3 => exact sds_nil ⟨rfl, rfl⟩
end
local macro_rules | `(tactic| walk_at "at0") => `(tactic| first | exact atI_st (by walk_at "om") (by walk_at "om") | exact atI_last' (by walk_at "om"))
/-! ### rows.py, where nothing is raised -/
theorem kp_of {K : PySem.W.Frag} {x qual : Str} {params : Arguments} {body : List Stmt} {scope : Scope} {f : Addr} (h : ∃ fd, FunD K x qual params body scope [] [] f fd) : PySem.W.keepIn K (.ref f) = true := let ⟨_, F⟩ := h; F.kp
abbrev okRow (C : Addr) (l : List Stone) : OD := .ins C ["blocks"] [.d (.tup (l.map stD))]
theorem odd_row (C : Addr) (l : List Stone) : ODD (okRow C l) (rowD C l) := .ins C _ allD1
theorem r_init {C : Addr} {l : List Stone} (h : Valid l) : starR (R_init C) (.loc 0 :: (l.map stD).map VD.d) [.ins C [] []] .non [okRow C l] :=
  ⟨.loc 0, _, l.map stD, rfl, .of_map _, by rw [List.length_map, sizeLine_eq]; have := h.1; omega, l, rfl, rfl, rfl, h, rfl⟩
def R_row_of (C : Addr) : FSpec := fun xs os r os' => ∃ (u : D) (l : List Stone), xs = [.d u] ∧ os = [] ∧ os' = [] ∧ u.seq? = some (l.map stD) ∧ Valid l ∧ r = rowD C l
theorem r_row_of {C : Addr} {u : D} {l : List Stone} (h : u.seq? = some (l.map stD)) (hv : Valid l) : R_row_of C [.d u] [] (rowD C l) [] := ⟨u, l, rfl, rfl, rfl, h, hv, rfl⟩
def R_len (C : Addr) : FSpec := fun xs os r os' => ∃ (l : List Stone), xs = [.d (rowD C l)] ∧ os = [] ∧ os' = [] ∧ r = .int l.length
theorem r_len {C : Addr} {l : List Stone} : R_len C [.d (rowD C l)] [] (.int l.length) [] := ⟨l, rfl, rfl, rfl, rfl⟩
def R_check (C : Addr) : FSpec := fun xs os r os' => ∃ (l : List Stone) (i : Int), xs = [.d (rowD C l), .d (.int i)] ∧ os = [] ∧ os' = [] ∧ 0 ≤ i ∧ i < l.length ∧ r = .non
theorem r_check {C : Addr} {l : List Stone} {i : Int} (h0 : 0 ≤ i) (h1 : i < l.length) : R_check C [.d (rowD C l), .d (.int i)] [] .non [] := ⟨l, i, rfl, rfl, rfl, h0, h1, rfl⟩
def isSide (s : Str) : Prop := s = "left" ∨ s = "right"
def R_side : FSpec := fun xs os r os' => ∃ (s : Str), xs = [.d (.str s)] ∧ os = [] ∧ os' = [] ∧ isSide s ∧ r = .non
theorem r_side {s : Str} (h : isSide s) : R_side [.d (.str s)] [] .non [] := ⟨s, rfl, rfl, rfl, h, rfl⟩
local macro_rules | `(tactic| walk_at "hR0") => `(tactic| first | exact r_isint (by first | exact rfl | assumption) | exact r_isstone (by first | exact stD_arg _ | assumption) | exact r_init (by assumption) | exact r_row_of (by first | exact rfl | assumption) (by assumption) | exact r_check (by walk_at "om") (by walk_at "om") | exact r_side (by assumption))
local macro_rules | `(tactic| walk_at "odd") => `(tactic| first | exact odd_row _ _ | skip)
section
variable {P : Program} {w : World} {K : PySem.W.Frag} {mg : Str → Option Value} {base : Heap} {A : Around} {k : Nat}
theorem cg_isint (T : Tx K mg) (hr : Room k A) (h : 1 ≤ k) : CGs P w K mg base A "is_integer" R_isint := ⟨_, _, ok_isint T, hr.mono h, T.g_is_integer, kp_of T.d_is_integer⟩
theorem mk_row (T : Tx K mg) (hr : Room k A) (h : 4 ≤ k) : MKs P w K mg base A (He.ga K "Row") "Row" (starR (R_init (He.ga K "Row"))) := ⟨_, _, ok_init T, hr.mono h, T.mk_Row, T.g_Row⟩
end
section
variable {P : Program} {w : World} {K : PySem.W.Frag} {mg : Str → Option Value} {base : Heap}
theorem ok_row_of (T : Tx K mg) : FnR P w K mg base CX0 5 (He.ga K "row_of") (spF K (R_row_of (He.ga K "Row"))) := by
  obtain ⟨fd, F⟩ := T.d_row_of
  have nd := sc_row_of.nd
  have hb : Binds K fd ["stones"] [] := F.bindsN fun _ _ _ _ _ _ us hl => match us, hl with | [_], _ => rfl
  refine fn_D F sc_row_of hb ?_ ?_
  · rintro xs os r os' ⟨u, l, rfl, rfl, rfl, _⟩
    exact ⟨rfl, rfl, by simp⟩
  · rintro cdv A outer s H E hr xs os r os' ⟨u, l, rfl, rfl, rfl, hu, hv, rfl⟩ _
    have c1 := mk_row (P := P) (w := w) (base := base) T hr (by decide)
    walk_at "ret"
    exact ⟨rfl, rfl⟩
theorem ok_len (T : Tx K mg) : FnR P w K mg base CX0 1 (He.ma K (He.ga K "Row") "__len__") (spF K (R_len (He.ga K "Row"))) := by
  obtain ⟨fd, F⟩ := T.d_Row_len
  have nd := sc_Row_len.nd
  have hb : Binds K fd ["self"] [] := F.bindsN fun _ _ _ _ _ _ us hl => match us, hl with | [_], _ => rfl
  refine fn_D F sc_Row_len hb ?_ ?_
  · rintro xs os r os' ⟨l, rfl, rfl, rfl, _⟩
    exact ⟨rfl, rfl, by simp⟩
  · rintro cdv A outer s H E hr xs os r os' ⟨l, rfl, rfl, rfl, rfl⟩ _
    have f1 := T.f_len
    have c1 := T.c_Row
    have c2 := T.na_Row_blocks
    walk_at "ret"
    exact ⟨by rw [List.length_map], rfl⟩
theorem ok_check (T : Tx K mg) : FnR P w K mg base CX0 2 (He.ma K (He.ga K "Row") "check_stone") (spF K (R_check (He.ga K "Row"))) := by
  obtain ⟨fd, F⟩ := T.d_Row_check_stone
  have nd := sc_Row_check_stone.nd
  have hb : Binds K fd ["self", "stone"] [] := F.bindsN fun _ _ _ _ _ _ us hl => match us, hl with | [_, _], _ => rfl
  refine fn_D F sc_Row_check_stone hb ?_ ?_
  · rintro xs os r os' ⟨l, i, rfl, rfl, rfl, _⟩
    exact ⟨rfl, rfl, by simp⟩
  · rintro cdv A outer s H E hr xs os r os' ⟨l, i, rfl, rfl, rfl, h0, h1, rfl⟩ _
    have f1 := T.f_len
    have c1 := T.c_Row
    have c2 := T.na_Row_blocks
    have c3 := cg_isint (P := P) (w := w) (base := base) T hr (by decide)
    refine' sds_if (p := false) ?b1 (fun z => nomatch z) ?b2
    case b1 =>
      refine' TD.to ?b3 ?b4
      case b3 => walk_at "te"
      case b4 =>
        simp [isIntD]
        omega
    case b2 =>
      intro _
      exact sds_nil (sds_nil ⟨rfl, rfl⟩)
theorem ok_side (T : Tx K mg) : FnR P w K mg base CX0 1 (He.ga K "check_side") (spF K (R_side)) := by
  obtain ⟨fd, F⟩ := T.d_check_side
  have nd := sc_check_side.nd
  have hb : Binds K fd ["side"] [] := F.bindsN fun _ _ _ _ _ _ us hl => match us, hl with | [_], _ => rfl
  refine fn_D F sc_check_side hb ?_ ?_
  · rintro xs os r os' ⟨s, rfl, rfl, rfl, _⟩
    exact ⟨rfl, rfl, by simp⟩
  · rintro cdv A outer s H E hr xs os r os' ⟨z, rfl, rfl, rfl, hz, rfl⟩ _
    have f1 := T.f_isinstance
    have f2 := T.f_str
    have g1 := T.g_SIDES
    refine' sds_if (p := false) ?b1 (fun z => nomatch z) ?b2
    case b1 =>
      refine' TD.to (TW.td (tw_or ?b3 fun _ => tw_or1 (td_ninS (u := .tup [.str "left", .str "right"]) (l := ["left", "right"]) ?b5 ?b6 rfl rfl))) ?b4
      case b3 =>
        refine' td_not ?z9
        case z9 => walk_at "te"
      case b5 => walk_at "ev"
      case b6 => exact ed_gtup g1 T.t_SIDES (fun S => .cons (.str _) (.cons (.str _) .nil)) rfl rfl
      case b4 =>
        rcases hz with rfl | rfl <;> rfl
    case b2 =>
      intro _
      exact sds_nil (sds_nil ⟨rfl, rfl⟩)
end
/-! ### runs -/
theorem okSt_iff : ∀ {l : List Stone} {a : Int}, okSt a l ↔ l.Pairwise (fun s t => s.1 < t.1) ∧ ∀ s ∈ l, a ≤ s.1 ∧ s.1 ≤ 1000000000 ∧ 1 ≤ s.2 ∧ s.2 ≤ 1000000000
  | [], a => by simp [okSt]
  | s :: r, a => by
    have ih := okSt_iff (l := r) (a := s.1 + 1)
    simp only [okSt, ih, List.pairwise_cons, List.mem_cons, forall_eq_or_imp]
    constructor
    · rintro ⟨h1, h2, h3, h4, h5, h6⟩
      refine ⟨⟨fun t ht => by have := (h6 t ht).1; omega, h5⟩, ⟨h1, h2, h3, h4⟩, fun t ht => ?_⟩
      have := h6 t ht; omega
    · rintro ⟨⟨h1, h2⟩, ⟨h3, h4, h5, h6⟩, h7⟩
      refine ⟨h3, h4, h5, h6, h2, fun t ht => ?_⟩
      have := h1 t ht; have := h7 t ht; omega
theorem okSt_sub {l l' : List Stone} {a : Int} (h : okSt a l) (hs : l'.Sublist l) : okSt a l' := by
  rw [okSt_iff] at h ⊢
  exact ⟨h.1.sublist hs, fun s hs' => h.2 s (hs.subset hs')⟩
theorem Valid.sub {l l' : List Stone} (h : Valid l) (hs : l'.Sublist l) : Valid l' := ⟨Nat.le_trans hs.length_le h.1, okSt_sub h.2 hs⟩
def totL (l : List Stone) : Int := (l.getD 0 (0, 0)).1 + (l.getD (l.length - 1) (0, 0)).1
def mirS (t : Int) (s : Stone) : Stone := (t - s.1, s.2)
def mirL (l : List Stone) : List Stone := l.reverse.map (mirS (totL l))
theorem mirL_length (l : List Stone) : (mirL l).length = l.length := by simp [mirL]
def mirU (l : List Stone) : D := if l = [] then .tup [] else .lst ((mirL l).map stD)
theorem mirU_seq (l : List Stone) : (mirU l).seq? = some ((mirL l).map stD) := by
  unfold mirU
  by_cases h : l = []
  · subst h; rfl
  · rw [if_neg h]; rfl
def R_mir : FSpec := fun xs os r os' => ∃ (l : List Stone), xs = [.d (.tup (l.map stD))] ∧ os = [] ∧ os' = [] ∧ l.length ≤ 40 ∧ r = mirU l
theorem r_mir {l : List Stone} (h : l.length ≤ 40) : R_mir [.d (.tup (l.map stD))] [] (mirU l) [] := ⟨l, rfl, rfl, rfl, h, rfl⟩
def goR : List Stone → Int → Nat → Nat
  | [], _, e => e
  | s :: r, reach, e => if s.1 ≤ reach then goR r (max reach (s.1 + s.2)) (e + 1) else e
def rightEnd (l : List Stone) (i : Nat) : Nat := goR (l.drop (i + 1)) ((l.getD i (0, 0)).1 + (l.getD i (0, 0)).2) i
theorem goR_step {l : List Stone} {e : Nat} {reach : Int} (h : e + 1 < l.length) (hp : (l.getD (e + 1) (0, 0)).1 ≤ reach) : goR (l.drop (e + 1)) reach e = goR (l.drop (e + 1 + 1)) (max reach ((l.getD (e + 1) (0, 0)).1 + (l.getD (e + 1) (0, 0)).2)) (e + 1) := by
  rw [List.drop_eq_getElem_cons h]
  have e1 : l.getD (e + 1) (0, 0) = l[e + 1] := by simp [h]
  rw [e1] at hp ⊢
  show (if l[e + 1].1 ≤ reach then _ else _) = _
  rw [if_pos hp]
theorem goR_stop {l : List Stone} {e : Nat} {reach : Int} (h : ¬ (e + 1 < l.length ∧ (l.getD (e + 1) (0, 0)).1 ≤ reach)) : goR (l.drop (e + 1)) reach e = e := by
  by_cases h1 : e + 1 < l.length
  · rw [List.drop_eq_getElem_cons h1]
    have e1 : l.getD (e + 1) (0, 0) = l[e + 1] := by simp [h1]
    rw [e1] at h
    show (if l[e + 1].1 ≤ reach then _ else _) = _
    rw [if_neg (fun z => h ⟨h1, z⟩)]
  · rw [List.drop_eq_nil_of_le (by omega)]; rfl
theorem goR_le : ∀ (r : List Stone) (reach : Int) (e : Nat), goR r reach e ≤ e + r.length
  | [], _, e => by simp [goR]
  | s :: r, reach, e => by
    unfold goR
    split
    · have := goR_le r (max reach (s.1 + s.2)) (e + 1); simp; omega
    · simp
theorem goR_ge : ∀ (r : List Stone) (reach : Int) (e : Nat), e ≤ goR r reach e
  | [], _, e => by simp [goR]
  | s :: r, reach, e => by
    unfold goR
    split
    · have := goR_ge r (max reach (s.1 + s.2)) (e + 1); omega
    · omega
theorem rightEnd_lt {l : List Stone} {i : Nat} (h : i < l.length) : rightEnd l i < l.length := by
  have := goR_le (l.drop (i + 1)) ((l.getD i (0, 0)).1 + (l.getD i (0, 0)).2) i
  unfold rightEnd
  rw [List.length_drop] at this
  omega
theorem rightEnd_ge {l : List Stone} {i : Nat} : i ≤ rightEnd l i := goR_ge _ _ _
def R_re : FSpec := fun xs os r os' => ∃ (u : D) (l : List Stone) (i : Nat), xs = [.d u, .d (.int i)] ∧ os = [] ∧ os' = [] ∧ u.seq? = some (l.map stD) ∧ i < l.length ∧ r = .int (rightEnd l i)
theorem r_re {u : D} {l : List Stone} {i : Nat} (hu : u.seq? = some (l.map stD)) (hi : i < l.length) : R_re [.d u, .d (.int i)] [] (.int (rightEnd l i)) [] := ⟨u, l, i, rfl, rfl, rfl, hu, hi, rfl⟩
/-- the side: true is right -/
def sideS : Bool → Str
  | true => "right"
  | false => "left"
theorem isSide_s (b : Bool) : isSide (sideS b) := by cases b; exact .inl rfl; exact .inr rfl
def runOf (l : List Stone) (i : Nat) : Bool → Nat × Nat
  | true => (i, rightEnd l i)
  | false => (l.length - 1 - rightEnd (mirL l) (l.length - 1 - i), i)
abbrev prD (p : Nat × Nat) : D := .tup [.int p.1, .int p.2]
def R_run : FSpec := fun xs os r os' => ∃ (l : List Stone) (i : Nat) (b : Bool), xs = [.d (.tup (l.map stD)), .d (.int i), .d (.str (sideS b))] ∧ os = [] ∧ os' = [] ∧ l.length ≤ 40 ∧ i < l.length ∧ r = prD (runOf l i b)
theorem r_run {l : List Stone} {i : Nat} {b : Bool} (h : l.length ≤ 40) (hi : i < l.length) : R_run [.d (.tup (l.map stD)), .d (.int i), .d (.str (sideS b))] [] (prD (runOf l i b)) [] := ⟨l, i, b, rfl, rfl, rfl, h, hi, rfl⟩
def R_call (C : Addr) : FSpec := fun xs os r os' => ∃ (l : List Stone) (i : Nat) (b : Bool), xs = [.d (rowD C l), .d (.int i), .d (.str (sideS b))] ∧ os = [] ∧ os' = [] ∧ l.length ≤ 40 ∧ i < l.length ∧ r = prD (runOf l i b)
theorem r_call {C : Addr} {l : List Stone} {i : Nat} {b : Bool} (h : l.length ≤ 40) (hi : i < l.length) : R_call C [.d (rowD C l), .d (.int i), .d (.str (sideS b))] [] (prD (runOf l i b)) [] := ⟨l, i, b, rfl, rfl, rfl, h, hi, rfl⟩
def R_add (C : Addr) : FSpec := fun xs os r os' => ∃ (l l' : List Stone), xs = [.d (rowD C l), .d (rowD C l')] ∧ os = [] ∧ os' = [] ∧ Valid (l ++ l') ∧ r = rowD C (l ++ l')
theorem r_add {C : Addr} {l l' : List Stone} (h : Valid (l ++ l')) : R_add C [.d (rowD C l), .d (rowD C l')] [] (rowD C (l ++ l')) [] := ⟨l, l', rfl, rfl, rfl, h, rfl⟩
def dropJ (js : List Int) (l : List Stone) : List Stone := l.zipIdx.filterMap fun p => if (p.2 : Int) ∈ js then none else some p.1
theorem dropJ_sub (js : List Int) (l : List Stone) : (dropJ js l).Sublist l := by
  have aux : ∀ (l : List Stone) (n : Nat), ((l.zipIdx n).filterMap fun p => if (p.2 : Int) ∈ js then none else some p.1).Sublist l := by
    intro l
    induction l with
    | nil => intro n; simp
    | cons a l ih =>
      intro n
      rw [List.zipIdx_cons, List.filterMap_cons]
      by_cases h : ((n : Nat) : Int) ∈ js
      · simp only [h, if_true]; exact (ih (n + 1)).cons a
      · simp only [h, if_false]; exact (ih (n + 1)).cons₂ a
  exact aux l 0
def R_without (C : Addr) : FSpec := fun xs os r os' => ∃ (l : List Stone) (js : List Int), xs = [.d (rowD C l), .d (.tup (js.map .int))] ∧ os = [] ∧ os' = [] ∧ Valid l ∧ (∀ j ∈ js, 0 ≤ j ∧ j < l.length) ∧ r = rowD C (dropJ js l)
theorem r_without {C : Addr} {l : List Stone} {j : Int} (h : Valid l) (h0 : 0 ≤ j) (h1 : j < l.length) : starR (R_without C) [.d (rowD C l), .d (.int j)] [] (rowD C (dropJ [j] l)) [] :=
  ⟨_, _, [.int j], rfl, allD1, by rw [sizeLine_eq]; simp, l, [j], rfl, rfl, rfl, h, by simp; exact ⟨h0, h1⟩, rfl⟩
local macro_rules | `(tactic| walk_at "at0") => `(tactic| first | exact atI_st (by walk_at "om") (by walk_at "om") | exact atI_last' (by walk_at "om"))
local macro_rules | `(tactic| walk_at "hR0") => `(tactic| first | exact r_isint (by first | exact rfl | assumption) | exact r_isstone (by first | exact stD_arg _ | assumption) | exact r_init (by assumption) | exact r_row_of (by first | exact rfl | assumption) (by assumption) | exact r_check (by walk_at "om") (by walk_at "om") | exact r_side (isSide_s _) | exact r_mir (by assumption) | exact r_re (by first | exact rfl | exact mirU_seq _ | assumption) (by walk_at "om") | exact r_run (by assumption) (by assumption))
local macro_rules | `(tactic| walk_at "odd") => `(tactic| first | exact odd_row _ _ | skip)
section
variable {P : Program} {w : World} {K : PySem.W.Frag} {mg : Str → Option Value} {base : Heap}
theorem ok_mir (T : Tx K mg) : FnR P w K mg base CX0 1 (He.ga K "mirrored") (spF K (R_mir)) := by
  obtain ⟨fd, F⟩ := T.d_mirrored
  have nd := sc_mirrored.nd
  have hb : Binds K fd ["stones"] [] := F.bindsN fun _ _ _ _ _ _ us hl => match us, hl with | [_], _ => rfl
  refine fn_D F sc_mirrored hb ?_ ?_
  · rintro xs os r os' ⟨l, rfl, rfl, rfl, _⟩
    exact ⟨rfl, rfl, by simp⟩
  · rintro cdv A outer s H E hr xs os r os' ⟨l, rfl, rfl, rfl, hl, rfl⟩ _
    have f1 := T.f_len
    refine' sds_if (p := decide (l = [])) ?b1 ?b2 ?b3
    case b1 =>
      refine' TD.to ?b4 ?b5
      case b4 => walk_at "te"
      case b5 => cases l <;> simp <;> omega
    case b2 =>
      intro h
      have h := of_decide_eq_true h
      subst h
      walk_at "ret"
      exact ⟨rfl, rfl⟩
    case b3 =>
      intro h
      have h := of_decide_eq_false h
      have h0 : 0 < l.length := List.length_pos_iff.mpr h
      refine sds_nil ?_
      walk_at "set 1"
      refine' sds_ret (ED.lst (ed_lcP (xs := l.reverse) (f := stD) (own := [("place", 2), ("height", 3)]) (ItD.to (it_tup (ed_revT ?h1)) ?h2) (fun s => some (stD (mirS (totL l) s))) ?h3 ?h4 ?hgv (blkOk_by rfl) nd rfl (fun _ => rfl)) ?h5) ?h6
      case h1 => walk_at "ev"
      case h2 => rw [List.map_reverse]
      case h4 => rw [sizeLine_eq, List.length_reverse]; omega
      case h3 =>
        intro st _
        refine' lcP2 2 3 nd rfl rfl rfl rfl rfl (fun _ _ _ _ _ => tds_nil) ?g3
        intro e he
        cases he
        intro _ _ _ _ _
        refine' ED.to ?k1 ?k2 rfl
        case k1 => walk_at "ev"
        case k2 => exact rfl
      case hgv => decide
      case h5 => exact rfl
      case h6 => exact ⟨by unfold mirU mirL; rw [if_neg h, List.filterMap_eq_map']; simp, rfl⟩
end
local macro_rules | `(tactic| walk_at "at0") => `(tactic| first | exact atI_st (by walk_at "om") (by walk_at "om") | exact atI_last' (by walk_at "om"))
local macro_rules | `(tactic| walk_at "hR0") => `(tactic| first | exact r_isint (by first | exact rfl | assumption) | exact r_isstone (by first | exact stD_arg _ | assumption) | exact r_init (by assumption) | exact r_row_of (by first | exact rfl | assumption) (by assumption) | exact r_check (by walk_at "om") (by walk_at "om") | exact r_side (isSide_s _) | exact r_mir (by assumption) | exact r_re (by first | exact rfl | exact mirU_seq _ | assumption) (by walk_at "om") | exact r_run (by assumption) (by assumption))
local macro_rules | `(tactic| walk_at "odd") => `(tactic| first | exact odd_row _ _ | skip)
section
variable {P : Program} {w : World} {K : PySem.W.Frag} {mg : Str → Option Value} {base : Heap} {A : Around} {k : Nat}
theorem cg_mir (T : Tx K mg) (hr : Room k A) (h : 1 ≤ k) : CGs P w K mg base A "mirrored" R_mir := ⟨_, _, ok_mir T, hr.mono h, T.g_mirrored, kp_of T.d_mirrored⟩
theorem cg_side (T : Tx K mg) (hr : Room k A) (h : 1 ≤ k) : CGs P w K mg base A "check_side" R_side := ⟨_, _, ok_side T, hr.mono h, T.g_check_side, kp_of T.d_check_side⟩
theorem cg_row_of (T : Tx K mg) (hr : Room k A) (h : 5 ≤ k) : CGs P w K mg base A "row_of" (R_row_of (He.ga K "Row")) := ⟨_, _, ok_row_of T, hr.mono h, T.g_row_of, kp_of T.d_row_of⟩
theorem cm_check (T : Tx K mg) (hr : Room k A) (h : 2 ≤ k) : CMs P w K mg base A (He.ga K "Row") "check_stone" (R_check (He.ga K "Row")) := ⟨T.c_Row, _, _, ok_check T, hr.mono h, T.m_Row_check_stone⟩
theorem cs_len (T : Tx K mg) (hr : Room k A) (h : 2 ≤ k) : CSs P w K mg base A (He.ga K "Row") "__len__" (R_len (He.ga K "Row")) := ⟨_, _, ok_len T, hr.mono h, T.m_Row_len.at_, T.m_Row_len.fn, T.sf_Row⟩
end
section
variable {P : Program} {w : World} {K : PySem.W.Frag} {mg : Str → Option Value} {base : Heap}
theorem ok_re (T : Tx K mg) : FnR P w K mg base CX0 1 (He.ga K "right_end") (spF K (R_re)) := by
  obtain ⟨fd, F⟩ := T.d_right_end
  have nd := sc_right_end.nd
  have hb : Binds K fd ["stones", "stone"] [] := F.bindsN fun _ _ _ _ _ _ us hl => match us, hl with | [_, _], _ => rfl
  refine fn_D F sc_right_end hb ?_ ?_
  · rintro xs os r os' ⟨u, l, i, rfl, rfl, rfl, _⟩
    exact ⟨rfl, rfl, by simp⟩
  · rintro cdv A outer s H E hr xs os r os' ⟨u, l, i, rfl, rfl, rfl, hu, hi, rfl⟩ _
    have f1 := T.f_len
    have f2 := T.f_max
    walk_at "set 2"
    walk_at "set 3"
    refine sds_while (fun ρ => ∃ (e : Nat) (reach : Int), ρ = ⟨0, [some (.d u), some (.d (.int i)), some (.d (.int e)), some (.d (.int reach))], []⟩ ∧ e < l.length ∧ goR (l.drop (e + 1)) reach e = rightEnd l i)
      (fun ρ => match ρ.sl with | [_, _, some (.d (.int e)), _] => l.length - e.toNat | _ => 0) ⟨i, _, rfl, hi, rfl⟩ ?_ PassesOwn.never
    rintro ρ ⟨e, reach, rfl, he, hg⟩
    refine' ⟨_, _, ?ht, ?hb1, ?hb2⟩
    case ht => walk_at "te"
    case hb1 =>
      intro hp
      simp only [Bool.and_eq_true, decide_eq_true_eq, List.length_map] at hp
      obtain ⟨h1, h2⟩ := hp
      walk_at "inc 2"
      walk_at "set 3"
      refine sds_nil ⟨⟨e + 1, _, rfl, by omega, ?_⟩, ?_⟩
      · rw [← hg, goR_step (by omega) h2]; rfl
      · show l.length - ((e : Int) + 1).toNat < l.length - ((e : Int)).toNat
        omega
    case hb2 =>
      intro hp
      simp only [Bool.and_eq_false_iff, decide_eq_false_iff_not, List.length_map] at hp
      walk_at "ret"
      refine ⟨?_, rfl⟩
      rw [← hg, goR_stop]
      rintro ⟨h1, h2⟩
      rcases hp with hp | hp
      · exact hp (by omega)
      · exact hp h2
theorem ok_add (T : Tx K mg) : FnR P w K mg base CX0 6 (He.ma K (He.ga K "Row") "__add__") (spF K (R_add (He.ga K "Row"))) := by
  obtain ⟨fd, F⟩ := T.d_Row_add
  have nd := sc_Row_add.nd
  have hb : Binds K fd ["self", "other"] [] := F.bindsN fun _ _ _ _ _ _ us hl => match us, hl with | [_, _], _ => rfl
  refine fn_D F sc_Row_add hb ?_ ?_
  · rintro xs os r os' ⟨l, l', rfl, rfl, rfl, _⟩
    exact ⟨rfl, rfl, by simp⟩
  · rintro cdv A outer s H E hr xs os r os' ⟨l, l', rfl, rfl, rfl, hv, rfl⟩ _
    have c1 := T.c_Row
    have c2 := T.na_Row_blocks
    have c3 := cg_row_of (P := P) (w := w) (base := base) T hr (by decide)
    have hl := hv.1
    rw [List.length_append] at hl
    refine' sds_ret ?h1 ?h2
    case h1 =>
      refine' ed_call c3 (ad_cons (ed_catT ?k1 ?k2 ?k3) ad_nil rfl) allD1 (r_row_of (l := l ++ l') ?k4 hv) rfl rfl rfl rfl
      case k1 => walk_at "ev"
      case k2 => walk_at "ev"
      case k3 => rw [sizeLine_eq, List.length_map, List.length_map]; omega
      case k4 => rw [List.map_append]; rfl
    case h2 => exact ⟨rfl, rfl⟩
end
section
variable {P : Program} {w : World} {K : PySem.W.Frag} {mg : Str → Option Value} {base : Heap} {A : Around} {k : Nat}
theorem cg_re (T : Tx K mg) (hr : Room k A) (h : 1 ≤ k) : CGs P w K mg base A "right_end" R_re := ⟨_, _, ok_re T, hr.mono h, T.g_right_end, kp_of T.d_right_end⟩
end
section
variable {P : Program} {w : World} {K : PySem.W.Frag} {mg : Str → Option Value} {base : Heap}
theorem ok_run (T : Tx K mg) : FnR P w K mg base CX0 2 (He.ga K "run_of") (spF K (R_run)) := by
  obtain ⟨fd, F⟩ := T.d_run_of
  have nd := sc_run_of.nd
  have hb : Binds K fd ["stones", "stone", "side"] [] := F.bindsN fun _ _ _ _ _ _ us hl => match us, hl with | [_, _, _], _ => rfl
  refine fn_D F sc_run_of hb ?_ ?_
  · rintro xs os r os' ⟨l, i, b, rfl, rfl, rfl, _⟩
    exact ⟨rfl, rfl, by simp⟩
  · rintro cdv A outer s H E hr xs os r os' ⟨l, i, b, rfl, rfl, rfl, hl, hi, rfl⟩ _
    have f1 := T.f_len
    obtain ⟨t1, g1⟩ := T.v_RIGHT
    have c1 := cg_re (P := P) (w := w) (base := base) T hr (by decide)
    have c2 := cg_mir (P := P) (w := w) (base := base) T hr (by decide)
    cases b with
    | true =>
      refine' sds_if (p := true) ?b1 ?b2 (fun z => nomatch z)
      case b1 =>
        refine' TD.to (td_eqS ?b3 ?b4 ?b5) ?b6
        case b3 => walk_at "ev"
        case b4 => walk_at "ev"
        case b5 => exact rfl
        case b6 => exact rfl
      case b2 =>
        intro _
        walk_at "ret"
        exact ⟨rfl, rfl⟩
    | false =>
      refine' sds_if (p := false) ?b1 (fun z => nomatch z) ?b2
      case b1 =>
        refine' TD.to (td_eqS ?b3 ?b4 ?b5) ?b6
        case b3 => walk_at "ev"
        case b4 => walk_at "ev"
        case b5 => exact rfl
        case b6 => exact rfl
      case b2 =>
        intro _
        refine sds_nil ?_
        walk_at "set 3"
        have e1 : ((l.map stD).length : Int) - 1 - (i : Int) = ((l.length - 1 - i : Nat) : Int) := by rw [List.length_map]; omega
        refine' sds_ret (ed_tup (ad_cons (ed_sub ?b3 (ed_call c1 (ad_cons ?b4 (ad_cons (ED.to ?b5 (congrArg (fun z => VD.d (D.int z)) e1) rfl) ad_nil rfl) rfl) allD2 (r_re (mirU_seq l) (by rw [mirL_length]; omega)) rfl rfl rfl rfl)) (ad_cons ?b6 ad_nil rfl) rfl) allD2 ?b8) ?b7
        case b3 => walk_at "ev"
        case b4 => walk_at "ev"
        case b5 => walk_at "ev"
        case b6 => walk_at "ev"
        case b8 => rw [sizeLine_eq]; exact Nat.le_of_ble_eq_true rfl
        case b7 =>
          refine ⟨?_, rfl⟩
          have h1 := rightEnd_lt (l := mirL l) (i := l.length - 1 - i) (by rw [mirL_length]; omega)
          rw [mirL_length] at h1
          have e2 : ((l.map stD).length : Int) - 1 - (rightEnd (mirL l) (l.length - 1 - i) : Int) = ((l.length - 1 - rightEnd (mirL l) (l.length - 1 - i) : Nat) : Int) := by rw [List.length_map]; omega
          rw [e2]; rfl
end
local macro_rules | `(tactic| walk_at "at0") => `(tactic| first | exact atI_st (by walk_at "om") (by walk_at "om") | exact atI_last' (by walk_at "om"))
local macro_rules | `(tactic| walk_at "hR0") => `(tactic| first | exact r_isint (by first | exact rfl | assumption) | exact r_isstone (by first | exact stD_arg _ | assumption) | exact r_init (by assumption) | exact r_row_of (by first | exact rfl | assumption) (by assumption) | exact r_check (by walk_at "om") (by walk_at "om") | exact r_side (isSide_s _) | exact r_mir (by assumption) | exact r_re (by first | exact rfl | exact mirU_seq _ | assumption) (by walk_at "om") | exact r_run (by assumption) (by assumption))
local macro_rules | `(tactic| walk_at "odd") => `(tactic| first | exact odd_row _ _ | skip)
section
variable {P : Program} {w : World} {K : PySem.W.Frag} {mg : Str → Option Value} {base : Heap} {A : Around} {k : Nat}
theorem cg_run (T : Tx K mg) (hr : Room k A) (h : 2 ≤ k) : CGs P w K mg base A "run_of" R_run := ⟨_, _, ok_run T, hr.mono h, T.g_run_of, kp_of T.d_run_of⟩
theorem cs_add (T : Tx K mg) (hr : Room k A) (h : 7 ≤ k) : CSs P w K mg base A (He.ga K "Row") "__add__" (R_add (He.ga K "Row")) := ⟨_, _, ok_add T, hr.mono h, T.m_Row_add.at_, T.m_Row_add.fn, T.sf_Row⟩
end
section
variable {P : Program} {w : World} {K : PySem.W.Frag} {mg : Str → Option Value} {base : Heap}
theorem ok_call (T : Tx K mg) : FnR P w K mg base CX0 3 (He.ma K (He.ga K "Row") "__call__") (spF K (R_call (He.ga K "Row"))) := by
  obtain ⟨fd, F⟩ := T.d_Row_call
  have nd := sc_Row_call.nd
  have hb : Binds K fd ["self", "stone", "side"] [] := F.bindsN fun _ _ _ _ _ _ us hl => match us, hl with | [_, _, _], _ => rfl
  refine fn_D F sc_Row_call hb ?_ ?_
  · rintro xs os r os' ⟨l, i, b, rfl, rfl, rfl, _⟩
    exact ⟨rfl, rfl, by simp⟩
  · rintro cdv A outer s H E hr xs os r os' ⟨l, i, b, rfl, rfl, rfl, hl, hi, rfl⟩ _
    have c1 := T.c_Row
    have c2 := T.na_Row_blocks
    have c3 := cg_run (P := P) (w := w) (base := base) T hr (by decide)
    have c4 := cg_side (P := P) (w := w) (base := base) T hr (by decide)
    have c5 := cm_check (P := P) (w := w) (base := base) T hr (by decide)
    walk_at "expr"
    walk_at "expr"
    walk_at "ret"
    exact ⟨rfl, rfl⟩
theorem ok_without (T : Tx K mg) : FnR P w K mg base CX0 6 (He.ma K (He.ga K "Row") "without") (spF K (starR (R_without (He.ga K "Row")))) := by
  obtain ⟨fd, F⟩ := T.d_Row_without
  have nd := sc_Row_without.nd
  refine fn_starD F sc_Row_without (fun _ _ _ _ _ _ _ => rfl) (fun _ _ _ _ _ _ _ _ _ => rfl) ?_ ?_
  · rintro xs os r os' ⟨l, js, rfl, rfl, rfl, _⟩
    exact ⟨rfl, rfl, by simp⟩
  · rintro cdv A outer s H E hr xs os r os' ⟨l, js, rfl, rfl, rfl, hv, hj, rfl⟩ _
    have c1 := T.c_Row
    have c2 := T.na_Row_blocks
    have c3 := cg_row_of (P := P) (w := w) (base := base) T hr (by decide)
    have c5 := cm_check (P := P) (w := w) (base := base) T hr (by decide)
    have f1 := T.f_enumerate
    have hl := hv.1
    refine' sds_for (ds := js.map D.int) ?hi (fun i ρ => ∃ (x : Option VD), ρ = ⟨0, [some (.d (rowD (He.ga K "Row") l)), some (.d (.tup (js.map D.int))), x, none, none], []⟩) ?h0 ?hs ?hd PassesOwn.never rfl (fun _ => rfl)
    case hi =>
      refine' it_tup ?e1
      case e1 => walk_at "ev"
    case h0 => exact ⟨none, rfl⟩
    case hs =>
      rintro i d ρ hd ⟨x, rfl⟩
      rw [List.getElem?_map] at hd
      obtain ⟨j, hj2, rfl⟩ : ∃ j, js[i]? = some j ∧ D.int j = d := by
        cases q : js[i]? with
        | none => rw [q] at hd; cases hd
        | some j => rw [q] at hd; exact ⟨j, rfl, by simpa using hd⟩
      obtain ⟨h0, h1⟩ := hj j (List.mem_of_getElem? hj2)
      refine' ⟨_, ?g1, ?_⟩
      case g1 => walk_at "nm 2"
      walk_at "expr"
      refine sds_nil ⟨_, rfl⟩
    case hd =>
      rintro ρ ⟨x, rfl⟩
      refine' sds_ret (ed_call c3 (ad_cons (ED.lst (ed_lcP (xs := l.zipIdx) (f := fun p => D.tup [.int (p.2 : Nat), stD p.1]) (own := [("number", 3), ("block", 4)]) (ItD.to (it_enum (u := .tup (l.map stD)) ?h1 rfl ?hg ?hm (hs := ?hst)) ?h2) (fun p => if (p.2 : Int) ∈ js then none else some (stD p.1)) ?h3 ?h4 ?hgv (blkOk_by rfl) nd rfl (fun _ => rfl)) ?h5) ad_nil rfl) allD1 (r_row_of (l := dropJ js l) rfl (hv.sub (dropJ_sub js l))) rfl rfl rfl rfl) ?h6
      case h1 => walk_at "ev"
      case hg => exact rfl
      case hm => exact f1
      case hst => exact rfl
      case h2 => exact enumD_zip stD l 0
      case h4 => rw [sizeLine_eq, List.length_zipIdx]; omega
      case h3 =>
        intro p _
        refine' lcP2 3 4 nd rfl rfl rfl rfl rfl ?g2 ?g3
        case g2 =>
          intro _ _ _ _ _
          refine' tds_one (TD.to (td_nin (l := js) ?k1 ?k2 ?k4 rfl) ?k3)
          case k1 => walk_at "ev"
          case k2 => walk_at "ev"
          case k4 => exact rfl
          case k3 => by_cases h : (p.2 : Int) ∈ js <;> simp [h]
        case g3 =>
          intro e he
          by_cases h : (p.2 : Int) ∈ js
          · rw [if_pos h] at he; cases he
          · rw [if_neg h] at he
            cases he
            intro _ _ _ _ _
            walk_at "ev"
      case hgv => decide
      case h5 =>
        unfold dropJ
        rw [List.map_filterMap]
        congr 1
        funext p
        by_cases h : (p.2 : Int) ∈ js <;> simp [h]
      case h6 => exact ⟨rfl, rfl⟩
end
/-! ### the draws -/
structure TkS where
  pos : Nat
  seed : Int
  rest : Int
abbrev tkO (sc : List Int) (s : TkS) : OD := .lst [.lst (sc.map D.int), .int s.pos, .int s.seed, .int s.rest]
def tk (sc : List Int) (s : TkS) (m : Int) : Int × TkS :=
  if 0 < s.rest then (s.rest % m, ⟨s.pos, s.seed, s.rest / m⟩)
  else if (sc.length : Int) < (s.pos : Int) + 1 then ((s.seed * 48271 + 11) % 2147483647 / 7 % m, ⟨s.pos + 1, (s.seed * 48271 + 11) % 2147483647, s.rest⟩)
  else (sc.getD s.pos 0 % m, ⟨s.pos + 1, (s.seed * 48271 + sc.getD s.pos 0 + 11) % 2147483647, if 1000000000000000000 ≤ sc.getD s.pos 0 then sc.getD s.pos 0 / m else s.rest⟩)
theorem tk_ge (sc : List Int) (s : TkS) {m : Int} (h : 0 < m) : 0 ≤ (tk sc s m).1 := by
  unfold tk
  split
  · exact Int.emod_nonneg _ (by omega)
  · split
    · exact Int.emod_nonneg _ (by omega)
    · exact Int.emod_nonneg _ (by omega)
theorem tk_lt (sc : List Int) (s : TkS) {m : Int} (h : 0 < m) : (tk sc s m).1 < m := by
  unfold tk
  split
  · exact Int.emod_lt_of_pos _ h
  · split
    · exact Int.emod_lt_of_pos _ h
    · exact Int.emod_lt_of_pos _ h
def R_tk : FSpec := fun xs os r os' => ∃ (sc : List Int) (s : TkS) (m : Int), xs = [.loc 0, .d (.int m)] ∧ os = [tkO sc s] ∧ os' = [tkO sc (tk sc s m).2] ∧ 0 < m ∧ m < 1073741824 ∧ r = .int (tk sc s m).1
theorem r_tk {sc : List Int} {s : TkS} {m : Int} (h : 0 < m) (h2 : m < 1073741824) : R_tk [.loc 0, .d (.int m)] [tkO sc s] (.int (tk sc s m).1) [tkO sc (tk sc s m).2] := ⟨sc, s, m, rfl, rfl, rfl, h, h2, rfl⟩
theorem atI_int {l : List Int} {i : Int} (h0 : 0 ≤ i) (h : i < l.length) : atI (l.map D.int) i = some (D.int (l.getD i.toNat 0)) := by
  have hlt : i.toNat < l.length := by omega
  unfold atI ixN
  rw [if_pos h0, if_pos (by rw [List.length_map]; exact h)]
  simp [hlt]
section
variable {P : Program} {w : World} {K : PySem.W.Frag} {mg : Str → Option Value} {base : Heap}
theorem ok_tk (T : Tx K mg) : FnR P w K mg base CX0 1 (He.ga K "_law_taken") (spF K (R_tk)) := by
  obtain ⟨fd, F⟩ := T.d_law_taken
  have nd := sc_law_taken.nd
  have hb : Binds K fd ["_law_row_here", "_law_many"] [] := F.bindsN fun _ _ _ _ _ _ us hl => match us, hl with | [_, _], _ => rfl
  refine fn_D F sc_law_taken hb ?_ ?_
  · rintro xs os r os' ⟨sc, s, m, rfl, rfl, rfl, _⟩
    exact ⟨rfl, rfl, by rintro o ho; simp at ho; subst ho; trivial⟩
  · rintro cdv A outer s0 H E hr xs os r os' ⟨sc, s, m, rfl, rfl, rfl, hm, hm2, rfl⟩ _
    have f1 := T.f_len
    have f2 := T.f_int
    refine' sds_if (p := decide (0 < s.rest)) ?b1 ?b2 ?b3
    case b1 => walk_at "te"
    case b2 =>
      intro h
      have h := of_decide_eq_true h
      walk_at "set 2"
      walk_at "six"
      walk_at "ret"
      refine ⟨?_, ?_⟩
      · unfold tk; rw [if_pos h]
      · unfold tk; rw [if_pos h]; rfl
    case b3 =>
      intro h
      have h := of_decide_eq_false h
      refine sds_nil ?_
      walk_at "six"
      refine' sds_if (p := decide ((sc.length : Int) < (s.pos : Int) + 1)) ?c1 ?c2 ?c3
      case c1 =>
        refine' TD.to ?c4 ?c5
        case c4 => walk_at "te"
        case c5 => rw [List.length_map]
      case c2 =>
        intro h2
        have h2 := of_decide_eq_true h2
        walk_at "six"
        walk_at "ret"
        refine ⟨?_, ?_⟩
        · unfold tk; rw [if_neg h, if_pos h2]
        · unfold tk; rw [if_neg h, if_pos h2]; rfl
      case c3 =>
        intro h2
        have h2 := of_decide_eq_false h2
        refine sds_nil ?_
        have e1 : atI (sc.map D.int) ((s.pos : Int) + 1 - 1) = some (D.int (sc.getD s.pos 0)) := by
          have : (s.pos : Int) + 1 - 1 = (s.pos : Int) := by omega
          rw [this, atI_int (by omega) (by omega)]; rfl
        walk_at "set 3"
        walk_at "six"
        refine' sds_if (p := decide (1000000000000000000 ≤ sc.getD s.pos 0)) ?d1 ?d2 ?d3
        case d1 =>
          refine' TD.to ?d4 ?d5
          case d4 => walk_at "te"
          case d5 => exact rfl
        case d2 =>
          intro h3
          have h3 := of_decide_eq_true h3
          walk_at "six"
          refine sds_nil ?_
          walk_at "ret"
          refine ⟨?_, ?_⟩
          · unfold tk; rw [if_neg h, if_neg h2]
          · unfold tk; rw [if_neg h, if_neg h2, if_pos h3]; rfl
        case d3 =>
          intro h3
          have h3 := of_decide_eq_false h3
          refine sds_nil ?_
          walk_at "ret"
          refine ⟨?_, ?_⟩
          · unfold tk; rw [if_neg h, if_neg h2]
          · unfold tk; rw [if_neg h, if_neg h2, if_neg h3]; rfl
end
/-! ### the drawn stones, the drawn row -/
section
variable {X : Cx} {ρ ρ1 : DL.Env} {a b : Expr} {pp pos : Pos} {sc : List Int} {s : TkS} {m : Int}
theorem ed_tk (C : CG X "_law_taken" R_tk) (ha : AD X ρ [a, b] [.loc 0, .d (.int m)] ρ1) (ho : ρ1.ow[0]? = some (some (tkO sc s))) (h : 0 < m) (h2 : m < 1073741824) (hg : Gl X "_law_taken")
    (he : starEach [a, b] X.env = (false, eval a X.env) :: starEach [b] X.env) (hpl : (backTo pos (starEach [b] X.env)).any (·.1) = false) :
    ED X ρ (.Call (.Name "_law_taken" pp) [a, b] [] pos) (.d (.int (tk sc s m).1)) { ρ1 with ow := ρ1.ow.set 0 (some (tkO sc (tk sc s m).2)) } :=
  ed_callL (ns := [0]) (os := [tkO sc s]) (os' := [tkO sc (tk sc s m).2]) C ha (.cons (.loc rfl) (.cons (.d _) .nil)) (Lend.one ho trivial) (r_tk h h2) rfl hg (by decide) he hpl
end
local macro_rules | `(tactic| walk_at "tk") => `(tactic| ((with_reducible refine' ed_tk ?q1 ?ha ?ho ?h1 ?h2 ?q2 ?q3 ?q4); (case' q1 => assumption); (case' q2 => exact rfl); (case' q3 => exact rfl); (case' q4 => exact rfl); (case' ha => walk_at "args"); (case' ho => exact rfl); (case' h1 => (first | decide | walk_at "om" | skip)); (case' h2 => (first | decide | walk_at "om" | skip))))
local macro_rules | `(tactic| walk_at "call") => `(tactic| first | walk_at "tk" | walk_at "gcall" | walk_at "len" | walk_at "max2" | walk_at "min2" | walk_at "isi" | walk_at "int" | walk_at "tuple" | walk_at "list" | walk_at "call0" | walk_at "make" | walk_at "meth" | walk_at "callO")
def tkA (i : Int) : Int := [2, 5, 12, 40].getD i.toNat 0
def tkB (i : Int) : Int := [1, 3, 9].getD i.toNat 0
theorem i3_cases {i : Int} (h0 : 0 ≤ i) (h1 : i < 3) : i = 0 ∨ i = 1 ∨ i = 2 := by omega
theorem i4_cases {i : Int} (h0 : 0 ≤ i) (h1 : i < 4) : i = 0 ∨ i = 1 ∨ i = 2 ∨ i = 3 := by omega
theorem atI_A {i : Int} (h0 : 0 ≤ i) (h1 : i < 4) : atI [D.int 2, D.int 5, D.int 12, D.int 40] i = some (.int (tkA i)) := by rcases i4_cases h0 h1 with rfl | rfl | rfl | rfl <;> rfl
theorem atI_B {i : Int} (h0 : 0 ≤ i) (h1 : i < 3) : atI [D.int 1, D.int 3, D.int 9] i = some (.int (tkB i)) := by rcases i3_cases h0 h1 with rfl | rfl | rfl <;> rfl
theorem tkA_ok {i : Int} (h0 : 0 ≤ i) (h1 : i < 4) : 0 < tkA i ∧ tkA i ≤ 40 := by rcases i4_cases h0 h1 with rfl | rfl | rfl | rfl <;> decide
theorem tkB_ok {i : Int} (h0 : 0 ≤ i) (h1 : i < 3) : 0 < tkB i ∧ tkB i ≤ 9 := by rcases i3_cases h0 h1 with rfl | rfl | rfl <;> decide
/-- the tall-draw, then the gap-draw -/
def tkH (sc : List Int) (s : TkS) : Int × TkS := tk sc (tk sc s 4).2 (tkA (tk sc s 4).1)
def tkG (sc : List Int) (s : TkS) : Int × TkS := tk sc (tk sc s 3).2 (tkB (tk sc s 3).1)
theorem tkH_ok (sc : List Int) (s : TkS) : 0 ≤ (tkH sc s).1 ∧ (tkH sc s).1 < 40 := by
  have h := tkA_ok (tk_ge sc s (m := 4) (by decide)) (tk_lt sc s (by decide))
  have h1 := tk_ge sc (tk sc s 4).2 h.1
  have h2 := tk_lt sc (tk sc s 4).2 h.1
  exact ⟨h1, Int.lt_of_lt_of_le h2 h.2⟩
theorem tkG_ok (sc : List Int) (s : TkS) : 0 ≤ (tkG sc s).1 ∧ (tkG sc s).1 < 9 := by
  have h := tkB_ok (tk_ge sc s (m := 3) (by decide)) (tk_lt sc s (by decide))
  have h1 := tk_ge sc (tk sc s 3).2 h.1
  have h2 := tk_lt sc (tk sc s 3).2 h.1
  exact ⟨h1, Int.lt_of_lt_of_le h2 h.2⟩
def gen (sc : List Int) : Nat → Int → TkS → List Stone × TkS
  | 0, _, s => ([], s)
  | n + 1, pl, s =>
    let h := tkH sc s
    let g := tkG sc h.2
    let t := gen sc n (pl + 1 + g.1) g.2
    ((pl, 1 + h.1) :: t.1, t.2)
theorem gen_length (sc : List Int) : ∀ (n : Nat) (pl : Int) (s : TkS), (gen sc n pl s).1.length = n
  | 0, _, _ => rfl
  | n + 1, pl, s => by unfold gen; simp [gen_length sc n]
theorem gen_ok (sc : List Int) : ∀ (n : Nat) (pl : Int) (s : TkS), pl + 9 * n ≤ 1000000000 → okSt pl (gen sc n pl s).1
  | 0, _, _, _ => trivial
  | n + 1, pl, s, h => by
    have h1 := tkH_ok sc s
    have h2 := tkG_ok sc (tkH sc s).2
    have ih := gen_ok sc n (pl + 1 + (tkG sc (tkH sc s).2).1) (tkG sc (tkH sc s).2).2 (by omega)
    refine ⟨Int.le_refl _, by omega, by show 1 ≤ 1 + (tkH sc s).1; omega, by show 1 + (tkH sc s).1 ≤ 1000000000; omega, ?_⟩
    rw [okSt_iff] at ih ⊢
    exact ⟨ih.1, fun t ht => by have := ih.2 t ht; show pl + 1 ≤ _ ∧ _; omega⟩
def stonesF (sc : List Int) (s : TkS) (most : Int) : List Stone × TkS :=
  gen sc (tk sc (tk sc s 3).2 (most + 1)).1.toNat (tk sc s 3).1 (tk sc (tk sc s 3).2 (most + 1)).2
theorem stonesF_len {sc : List Int} {s : TkS} {most : Int} (h : 0 ≤ most) : ((stonesF sc s most).1.length : Int) ≤ most := by
  unfold stonesF
  rw [gen_length]
  have h1 := tk_ge sc (tk sc s 3).2 (m := most + 1) (by omega)
  have h2 := tk_lt sc (tk sc s 3).2 (m := most + 1) (by omega)
  omega
theorem okSt_mono {l : List Stone} {a b : Int} (h : okSt a l) (hab : b ≤ a) : okSt b l := by
  rw [okSt_iff] at h ⊢
  exact ⟨h.1, fun t ht => by have := h.2 t ht; omega⟩
theorem stonesF_valid {sc : List Int} {s : TkS} {most : Int} (h : 0 ≤ most) (h40 : most ≤ 40) : Valid (stonesF sc s most).1 := by
  have hl := stonesF_len (sc := sc) (s := s) h
  refine ⟨by omega, ?_⟩
  unfold stonesF at hl ⊢
  rw [gen_length] at hl
  have h1 := tk_ge sc s (m := 3) (by decide)
  have h2 := tk_lt sc s (m := 3) (by decide)
  exact okSt_mono (gen_ok sc _ _ _ (by omega)) h1
def R_stones : FSpec := fun xs os r os' => ∃ (sc : List Int) (s : TkS) (most : Int), xs = [.loc 0, .d (.int most)] ∧ os = [tkO sc s] ∧ os' = [tkO sc (stonesF sc s most).2] ∧ 0 ≤ most ∧ most ≤ 40 ∧ r = .lst ((stonesF sc s most).1.map stD)
def R_row (C : Addr) : FSpec := fun xs os r os' => ∃ (l : List Stone), xs = [.d (.lst (l.map stD))] ∧ os = [] ∧ os' = [] ∧ Valid l ∧ r = rowD C l
theorem r_row {C : Addr} {l : List Stone} (h : Valid l) : R_row C [.d (.lst (l.map stD))] [] (rowD C l) [] := ⟨l, rfl, rfl, rfl, h, rfl⟩
section
variable {P : Program} {w : World} {K : PySem.W.Frag} {mg : Str → Option Value} {base : Heap} {A : Around} {k : Nat}
theorem cg_tk (T : Tx K mg) (hr : Room k A) (h : 1 ≤ k) : CGs P w K mg base A "_law_taken" R_tk := ⟨_, _, ok_tk T, hr.mono h, T.g_law_taken, kp_of T.d_law_taken⟩
end
section
variable {P : Program} {w : World} {K : PySem.W.Frag} {mg : Str → Option Value} {base : Heap}
theorem ok_stones (T : Tx K mg) : FnR P w K mg base CX0 2 (He.ga K "_law_stones") (spF K (R_stones)) := by
  obtain ⟨fd, F⟩ := T.d_law_stones
  have nd := sc_law_stones.nd
  have hb : Binds K fd ["_law_row_here", "_law_most"] [] := F.bindsN fun _ _ _ _ _ _ us hl => match us, hl with | [_, _], _ => rfl
  refine fn_D F sc_law_stones hb ?_ ?_
  · rintro xs os r os' ⟨sc, s, m, rfl, rfl, rfl, _⟩
    exact ⟨rfl, rfl, by rintro o ho; simp at ho; subst ho; trivial⟩
  · rintro cdv A outer s0 H E hr xs os r os' ⟨sc, s, most, rfl, rfl, rfl, hm, hm2, rfl⟩ _
    have f1 := T.f_range
    have c1 := cg_tk (P := P) (w := w) (base := base) T hr (by decide)
    have g0 := tk_ge sc (tk sc s 3).2 (m := most + 1) (by omega)
    have g1 := tk_lt sc (tk sc s 3).2 (m := most + 1) (by omega)
    refine' sds_par 2 3 (ad_cons (ed_lstO ad_nil .nil ?hz) (ad_cons ?a1 ad_nil rfl) rfl) ?hn rfl nd rfl rfl (by decide) rfl rfl rfl rfl
    case hz => decide
    case a1 => walk_at "tk"
    refine' sds_for (ds := rngD 0 (tk sc (tk sc s 3).2 (most + 1)).1.toNat) ?hi (fun i ρ => ∃ (acc : List Stone) (pl : Int) (s' : TkS) (x : Option VD), ρ = ⟨1, [some (.loc 0), some (.d (.int most)), some (.loc 1), some (.d (.int pl)), x], [some (tkO sc s'), some (.lst (acc.map stD))]⟩ ∧ acc.length = i ∧
      acc ++ (gen sc ((tk sc (tk sc s 3).2 (most + 1)).1.toNat - i) pl s').1 = (stonesF sc s most).1 ∧ (gen sc ((tk sc (tk sc s 3).2 (most + 1)).1.toNat - i) pl s').2 = (stonesF sc s most).2) ?h0 ?hs ?hd PassesOwn.never rfl (fun _ => rfl)
    case hi =>
      refine' it_range1 ?i1 ?i2 f1 ?i3 ?i4
      case i1 => walk_at "tk"
      case i2 => exact rfl
      case i3 => omega
      case i4 => exact rfl
    case h0 => exact ⟨[], _, _, none, rfl, rfl, rfl, rfl⟩
    case hs =>
      rintro i d ρ hd ⟨acc, pl, s', x, rfl, hlen, hg1, hg2⟩
      obtain ⟨hi, rfl⟩ := rngD_get hd
      refine' ⟨_, ?g1, ?_⟩
      case g1 => walk_at "nm 4"
      have t1 := tkA_ok (tk_ge sc s' (m := 4) (by decide)) (tk_lt sc s' (by decide))
      have t2 := tkB_ok (tk_ge sc (tkH sc s').2 (m := 3) (by decide)) (tk_lt sc (tkH sc s').2 (by decide))
      have e1 := atI_A (tk_ge sc s' (m := 4) (by decide)) (tk_lt sc s' (by decide))
      have e2 := atI_B (tk_ge sc (tkH sc s').2 (m := 3) (by decide)) (tk_lt sc (tkH sc s').2 (by decide))
      refine' sds_expr (ed_app (ds := acc.map stD) ?a1 ?a2 ?a3 ?a4 ?a5 ?a6 ?a7 ?a8 ?a9 ?a10) ?_ rfl
      case a1 => walk_at "var"
      case a2 => walk_at "ev"
      case a3 => exact rfl
      case a4 => exact ⟨_, rfl⟩
      case a5 => rw [sizeLine_eq, List.length_map]; omega
      case a6 => exact rfl
      case a7 => exact rfl
      case a8 => exact rfl
      case a9 => exact rfl
      case a10 => exact rfl
      walk_at "set 3"
      have e3 : (tk sc (tk sc s 3).2 (most + 1)).1.toNat - i = (tk sc (tk sc s 3).2 (most + 1)).1.toNat - (i + 1) + 1 := by omega
      rw [e3] at hg1 hg2
      refine sds_nil ⟨acc ++ [(pl, 1 + (tkH sc s').1)], pl + 1 + (tkG sc (tkH sc s').2).1, (tkG sc (tkH sc s').2).2, some (.d (.int (0 + (i : Int)))), ?_, by simp [hlen], ?_, ?_⟩
      · rw [List.map_append]; rfl
      · rw [← hg1, List.append_assoc]; rfl
      · rw [← hg2]; rfl
    case hd =>
      rintro ρ ⟨acc, pl, s', x, rfl, hlen, hg1, hg2⟩
      rw [rngD_length, Nat.sub_self] at hg1 hg2
      refine' sds_ret (ED.fz (n := 1) (o := .lst (acc.map stD)) ?a1 ?a2 (.lst _) ?a3) ?a4
      case a1 => walk_at "var"
      case a2 => exact rfl
      case a3 => exact Nat.le_refl _
      case a4 =>
        refine ⟨?_, ?_⟩
        · rw [← hg1]; simp [gen]
        · rw [← hg2]; rfl
theorem ok_row (T : Tx K mg) : FnR P w K mg base CX0 8 (He.ga K "_law_row") (spF K (R_row (He.ga K "Row"))) := by
  obtain ⟨fd, F⟩ := T.d_law_row
  have nd := sc_law_row.nd
  have hb : Binds K fd ["_law_stones_here"] [] := F.bindsN fun _ _ _ _ _ _ us hl => match us, hl with | [_], _ => rfl
  refine fn_D F sc_law_row hb ?_ ?_
  · rintro xs os r os' ⟨l, rfl, rfl, rfl, _⟩
    exact ⟨rfl, rfl, by simp⟩
  · rintro cdv A outer s0 H E hr xs os r os' ⟨l, rfl, rfl, rfl, hv, rfl⟩ _
    have c1 := mk_row (P := P) (w := w) (base := base) T hr (by decide)
    have c2 := cs_add (P := P) (w := w) (base := base) T hr (by decide)
    refine' sds_set 1 (ed_make0 c1 (r_init (l := []) ⟨Nat.zero_le _, trivial⟩) (odd_row _ _) rfl rfl) ?_ nd rfl (.inl rfl) rfl (.inl rfl)
    refine' sds_for (ds := l.map stD) ?hi (fun i ρ => ∃ (x : Option VD), ρ = ⟨0, [some (.d (.lst (l.map stD))), some (.d (rowD (He.ga K "Row") (l.take i))), x], []⟩) ?h0 ?hs ?hd PassesOwn.never rfl (fun _ => rfl)
    case hi =>
      refine' it_list ?e1
      case e1 => walk_at "ev"
    case h0 => exact ⟨none, rfl⟩
    case hs =>
      rintro i d ρ hd ⟨x, rfl⟩
      rw [List.getElem?_map] at hd
      obtain ⟨st, hst, rfl⟩ : ∃ st, l[i]? = some st ∧ stD st = d := by
        cases q : l[i]? with
        | none => rw [q] at hd; cases hd
        | some st => rw [q] at hd; exact ⟨st, rfl, by simpa using hd⟩
      have e3 : l.take (i + 1) = l.take i ++ [st] := by rw [List.take_add_one, hst]; rfl
      have v1 : Valid [st] := hv.sub (List.singleton_sublist.mpr (List.mem_of_getElem? hst))
      have v2 : Valid (l.take i ++ [st]) := by rw [← e3]; exact hv.sub (List.take_sublist _ _)
      refine' ⟨_, ?g1, ?_⟩
      case g1 => walk_at "nm 2"
      refine' sds_set 1 (ed_binO c2 ?k1 (ed_make c1 (ad_cons ?k2 ad_nil rfl) allD1 (r_init (l := [st]) v1) (odd_row _ _) rfl rfl rfl rfl) (r_add v2)) ?_ nd rfl (.inl rfl) rfl (.inl rfl)
      case k1 => walk_at "ev"
      case k2 => walk_at "ev"
      refine sds_nil ⟨some (.d (stD st)), ?_⟩
      rw [e3]; rfl
    case hd =>
      rintro ρ ⟨x, rfl⟩
      walk_at "ret"
      refine ⟨?_, rfl⟩
      rw [List.length_map, List.take_length]
end
/-! ### lists of places -/
abbrev iN (b : List Nat) : List Int := b.map (fun (n : Nat) => (n : Int))
abbrev nsD (b : List Nat) : D := .lst ((iN b).map D.int)
theorem mem_iN {b : List Nat} {i : Nat} : (i : Int) ∈ iN b ↔ i ∈ b := by
  unfold iN
  rw [List.mem_map]
  constructor
  · rintro ⟨j, hj, e⟩
    have : j = i := by omega
    subst this; exact hj
  · intro h; exact ⟨i, h, rfl⟩
theorem iN_inj {a b : List Nat} : iN a = iN b ↔ a = b := by
  constructor
  · intro h; exact (List.map_inj_right (fun a b h => by omega)).mp h
  · rintro rfl; rfl
theorem iN_map (b : List Nat) : (iN b).map D.int = b.map (fun n => D.int (n : Nat)) := by rw [List.map_map]; rfl
theorem rngD_nat (a n : Nat) : rngD (a : Int) n = (List.range' a n).map (fun k => D.int (k : Nat)) := by
  unfold rngD
  rw [List.range'_eq_map_range, List.map_map]
  apply List.map_congr_left
  intro k _
  show D.int ((a : Int) + (k : Int)) = D.int ((a + k : Nat) : Int)
  rw [Int.natCast_add]
theorem fm_nat (xs : List Nat) (p : Nat → Bool) : xs.filterMap (fun k => if p k = true then some (D.int (k : Nat)) else none) = (iN (xs.filter p)).map D.int := by
  induction xs with
  | nil => rfl
  | cons x xs ih =>
    rw [List.filterMap_cons, List.filter_cons]
    by_cases h : p x = true
    · simp only [h, if_true, ih, List.map_cons]
    · simp only [h, if_false, ih]; rfl
def plc (l : List Stone) (k : Nat) : Int := (l.getD k (0, 0)).1
def edl (l : List Stone) (k : Nat) : Int := (l.getD k (0, 0)).1 + (l.getD k (0, 0)).2
def sm (l : List Stone) (i f : Nat) : List Nat := (List.range' i (f - i)).filter fun k => decide (plc l f ≤ edl l k)
def tkStep (l : List Stone) (i : Nat) (best : Option (List Nat)) (f : Nat) : Option (List Nat) :=
  if i ∈ sm l i f then best else match best with
    | none => some (sm l i f)
    | some b => if (sm l i f).length < b.length then some (sm l i f) else some b
def takenR (l : List Stone) (i g : Nat) : Option (List Nat) := (List.range' (i + 1) (g - i)).foldl (tkStep l i) none
def optD : Option (List Nat) → D
  | none => .non
  | some b => nsD b
def R_tkr : FSpec := fun xs os r os' => ∃ (u : D) (l : List Stone) (i g : Nat), xs = [.d u, .d (.int i), .d (.int g)] ∧ os = [] ∧ os' = [] ∧ u.seq? = some (l.map stD) ∧ i < l.length ∧ g < l.length ∧ l.length ≤ 40 ∧ r = optD (takenR l i g)
theorem r_tkr {u : D} {l : List Stone} {i g : Nat} (hu : u.seq? = some (l.map stD)) (hi : i < l.length) (hg : g < l.length) (hl : l.length ≤ 40) : R_tkr [.d u, .d (.int i), .d (.int g)] [] (optD (takenR l i g)) [] := ⟨u, l, i, g, rfl, rfl, rfl, hu, hi, hg, hl, rfl⟩
local macro_rules | `(tactic| walk_at "at0") => `(tactic| first | exact atI_st (by walk_at "om") (by walk_at "om") | exact atI_last' (by walk_at "om"))
section
variable {P : Program} {w : World} {K : PySem.W.Frag} {mg : Str → Option Value} {base : Heap}
theorem ok_tkr (T : Tx K mg) : FnR P w K mg base CX0 1 (He.ga K "taken_to_right") (spF K (R_tkr)) := by
  obtain ⟨fd, F⟩ := T.d_taken_to_right
  have nd := sc_taken_to_right.nd
  have hb : Binds K fd ["stones", "stone", "goal"] [] := F.bindsN fun _ _ _ _ _ _ us hl => match us, hl with | [_, _, _], _ => rfl
  refine fn_D F sc_taken_to_right hb ?_ ?_
  · rintro xs os r os' ⟨u, l, i, g, rfl, rfl, rfl, _⟩
    exact ⟨rfl, rfl, by simp⟩
  · rintro cdv A outer s0 H E hr xs os r os' ⟨u, l, i, g, rfl, rfl, rfl, hu, hi, hg, hl, rfl⟩ _
    have f1 := T.f_len
    have f2 := T.f_range
    walk_at "set 3"
    refine' sds_for (ds := (List.range' (i + 1) (g - i)).map (fun k => D.int (k : Nat))) ?hi (fun j ρ => ∃ (x y z : Option VD), ρ = ⟨0, [some (.d u), some (.d (.int i)), some (.d (.int g)), some (.d (optD (((List.range' (i + 1) (g - i)).take j).foldl (tkStep l i) none))), x, y, z, none], []⟩) ?h0 ?hs ?hd PassesOwn.never rfl (fun _ => rfl)
    case hi =>
      refine' ItD.to (it_range2 ?i1 ?i2 ?i3 f2 ?i4 ?i5 ?i6) ?i7
      case i1 => walk_at "ev"
      case i2 => walk_at "ev"
      case i3 => exact rfl
      case i4 => omega
      case i5 => exact rfl
      case i6 => exact rfl
      case i7 =>
        have e1 : ((g : Int) + 1 - ((i : Int) + 1)).toNat = g - i := by omega
        rw [e1]; exact rngD_nat (i + 1) (g - i)
    case h0 => exact ⟨none, none, none, rfl⟩
    case hs =>
      rintro j d ρ hd ⟨x, y, z, rfl⟩
      rw [List.getElem?_map] at hd
      obtain ⟨f, hf, rfl⟩ : ∃ f, (List.range' (i + 1) (g - i))[j]? = some f ∧ D.int (f : Nat) = d := by
        cases q : (List.range' (i + 1) (g - i))[j]? with
        | none => rw [q] at hd; cases hd
        | some f => rw [q] at hd; exact ⟨f, rfl, by simpa using hd⟩
      have hmem := List.mem_of_getElem? hf
      rw [List.mem_range'_1] at hmem
      have e3 : (List.range' (i + 1) (g - i)).take (j + 1) = (List.range' (i + 1) (g - i)).take j ++ [f] := by rw [List.take_add_one, hf]; rfl
      rw [e3, List.foldl_append]
      generalize ((List.range' (i + 1) (g - i)).take j).foldl (tkStep l i) none = best
      refine' ⟨_, ?g1, ?_⟩
      case g1 => walk_at "nm 4"
      walk_at "set 5"
      refine' sds_lcP 6 (xs := List.range' i (f - i)) (f := fun k => D.int (k : Nat)) (own := [("number", 7)]) (gv := [7]) (ItD.to (it_range2 ?i1 ?i2 ?i3 f2 ?i4 ?i5 ?i6) ?i7) (fun k => if decide (plc l f ≤ edl l k) = true then some (D.int (k : Nat)) else none) ?l1 ?l2 ?l3 ?l4 (blkOk_by rfl) nd rfl rfl rfl rfl (fun _ => rfl)
      case i1 => walk_at "ev"
      case i2 => walk_at "ev"
      case i3 => exact rfl
      case i4 => omega
      case i5 => exact rfl
      case i6 => exact rfl
      case i7 =>
        have e1 : ((f : Int) - (i : Int)).toNat = f - i := by omega
        rw [e1]; exact rngD_nat i (f - i)
      case l3 => rw [List.length_range', sizeLine_eq]; omega
      case l4 => decide
      case l1 =>
        intro k hk
        rw [List.mem_range'_1] at hk
        refine' lcP1 7 nd rfl rfl ?t1 ?t2
        case t1 =>
          intro _ _ _ _ _
          refine' tds_one (TD.to (td_ge ?k1 ?k2) ?k3)
          case k1 => walk_at "ev"
          case k2 => walk_at "ev"
          case k3 =>
            show decide (plc l f ≤ edl l k) = _
            by_cases h : plc l f ≤ edl l k <;> simp [h]
        case t2 =>
          intro e he
          by_cases h : plc l f ≤ edl l k
          · simp only [h, decide_true, if_true] at he
            cases he
            intro _ _ _ _ _
            walk_at "ev"
          · simp [h] at he
      case l2 =>
        rw [fm_nat]
        have e4 : (List.range' i (f - i)).filter (fun k => decide (plc l f ≤ edl l k)) = sm l i f := rfl
        rw [e4]
        cases best with
        | none =>
          refine' sds_if (p := !decide (i ∈ sm l i f)) ?m1 ?m2 ?m3
          case m1 =>
            refine' TD.to (TW.td (tw_and (td_nin (l := iN (sm l i f)) ?n1 ?n2 ?n3 ?n4) fun _ => tw_and1 (TW.td (tw_or (q := true) (td_isN ?n5) ?n8)))) ?n6
            case n1 => walk_at "ev"
            case n2 => walk_at "ev"
            case n3 => exact rfl
            case n4 => exact rfl
            case n5 => walk_at "ev"
            case n8 => intro h; exact absurd h (by simp [optD, D.isNone])
            case n6 => simp [optD, D.isNone, mem_iN]
          case m2 =>
            intro h
            walk_at "set 3"
            refine sds_nil (sds_nil ?_)
            have h : i ∉ sm l i f := by simpa using h
            have e5 : [f].foldl (tkStep l i) none = some (sm l i f) := by
              show tkStep l i none f = _
              unfold tkStep; rw [if_neg h]
            simp only [e5]
            exact ⟨_, _, _, rfl⟩
          case m3 =>
            intro h
            refine sds_nil (sds_nil ?_)
            have h : i ∈ sm l i f := by simpa using h
            have e5 : [f].foldl (tkStep l i) none = none := by
              show tkStep l i none f = _
              unfold tkStep; rw [if_pos h]
            simp only [e5]
            exact ⟨_, _, _, rfl⟩
        | some b =>
          refine' sds_if (p := !decide (i ∈ sm l i f) && decide ((sm l i f).length < b.length)) ?m1 ?m2 ?m3
          case m1 =>
            refine' TD.to (TW.td (tw_and (td_nin (l := iN (sm l i f)) ?n1 ?n2 ?n3 ?n4) fun _ => tw_and1 (TW.td (tw_or (td_isN ?n5) fun _ => tw_or1 ?n7)))) ?n6
            case n1 => walk_at "ev"
            case n2 => walk_at "ev"
            case n3 => exact rfl
            case n4 => exact rfl
            case n5 => walk_at "ev"
            case n7 => walk_at "te"
            case n6 => simp [optD, D.isNone, mem_iN]
          case m2 =>
            intro h
            walk_at "set 3"
            refine sds_nil (sds_nil ?_)
            have h : i ∉ sm l i f ∧ (sm l i f).length < b.length := by simpa using h
            have e5 : [f].foldl (tkStep l i) (some b) = some (sm l i f) := by
              show tkStep l i (some b) f = _
              unfold tkStep; rw [if_neg h.1]; simp only [h.2, if_true]
            simp only [e5]
            exact ⟨_, _, _, rfl⟩
          case m3 =>
            intro h
            refine sds_nil (sds_nil ?_)
            have h : i ∉ sm l i f → b.length ≤ (sm l i f).length := by simpa using h
            have e5 : [f].foldl (tkStep l i) (some b) = some b := by
              show tkStep l i (some b) f = _
              unfold tkStep
              by_cases h2 : i ∈ sm l i f
              · rw [if_pos h2]
              · rw [if_neg h2]; have := h h2; exact if_neg (by omega)
            simp only [e5]
            exact ⟨_, _, _, rfl⟩
    case hd =>
      rintro ρ ⟨x, y, z, rfl⟩
      walk_at "ret"
      refine ⟨?_, rfl⟩
      unfold takenR
      rw [List.length_map, List.take_length]
end
/-! ### the fewest, the spared -/
theorem sm_mem {l : List Stone} {i f k : Nat} : k ∈ sm l i f ↔ i ≤ k ∧ k < f ∧ plc l f ≤ edl l k := by
  unfold sm
  rw [List.mem_filter, List.mem_range'_1, decide_eq_true_iff]
  constructor
  · rintro ⟨⟨h1, h2⟩, h3⟩; exact ⟨h1, by omega, h3⟩
  · rintro ⟨h1, h2, h3⟩; exact ⟨⟨h1, by omega⟩, h3⟩
theorem sm_sorted (l : List Stone) (i f : Nat) : (sm l i f).Pairwise (· < ·) := (List.pairwise_lt_range' (s := i) (n := f - i) (step := 1) (by decide)).sublist List.filter_sublist
def TkGood (l : List Stone) (i : Nat) (xs : List Nat) : Option (List Nat) → Prop
  | none => ∀ f ∈ xs, i ∈ sm l i f
  | some S => ∃ f ∈ xs, S = sm l i f ∧ i ∉ S ∧ ∀ f' ∈ xs, i ∉ sm l i f' → S.length ≤ (sm l i f').length
theorem tkGood_step {l : List Stone} {i f : Nat} {xs : List Nat} {best : Option (List Nat)} (h : TkGood l i xs best) : TkGood l i (xs ++ [f]) (tkStep l i best f) := by
  unfold tkStep
  by_cases hi : i ∈ sm l i f
  · rw [if_pos hi]
    cases best with
    | none =>
      intro f' hf'
      rcases List.mem_append.mp hf' with h1 | h1
      · exact h f' h1
      · rw [List.mem_singleton.mp h1]; exact hi
    | some S =>
      obtain ⟨g, hg, h1, h2, h3⟩ := h
      refine ⟨g, List.mem_append_left _ hg, h1, h2, fun f' hf' hn => ?_⟩
      rcases List.mem_append.mp hf' with h4 | h4
      · exact h3 f' h4 hn
      · rw [List.mem_singleton.mp h4] at hn; exact absurd hi hn
  · rw [if_neg hi]
    cases best with
    | none =>
      refine ⟨f, List.mem_append_right _ (by simp), rfl, hi, fun f' hf' hn => ?_⟩
      rcases List.mem_append.mp hf' with h4 | h4
      · exact absurd (h f' h4) hn
      · rw [List.mem_singleton.mp h4]; exact Nat.le_refl _
    | some S =>
      obtain ⟨g, hg, h1, h2, h3⟩ := h
      show TkGood l i (xs ++ [f]) (if (sm l i f).length < S.length then some (sm l i f) else some S)
      by_cases hl : (sm l i f).length < S.length
      · rw [if_pos hl]
        refine ⟨f, List.mem_append_right _ (by simp), rfl, hi, fun f' hf' hn => ?_⟩
        rcases List.mem_append.mp hf' with h4 | h4
        · have := h3 f' h4 hn; omega
        · rw [List.mem_singleton.mp h4]; exact Nat.le_refl _
      · rw [if_neg hl]
        refine ⟨g, List.mem_append_left _ hg, h1, h2, fun f' hf' hn => ?_⟩
        rcases List.mem_append.mp hf' with h4 | h4
        · exact h3 f' h4 hn
        · rw [List.mem_singleton.mp h4]; omega
theorem tkGood_fold {l : List Stone} {i : Nat} : ∀ (ys xs : List Nat) (best : Option (List Nat)), TkGood l i xs best → TkGood l i (xs ++ ys) (ys.foldl (tkStep l i) best)
  | [], xs, best, h => by rw [List.append_nil]; exact h
  | y :: ys, xs, best, h => by
    have := tkGood_fold ys (xs ++ [y]) _ (tkGood_step (f := y) h)
    rw [List.append_assoc] at this
    exact this
theorem takenR_good (l : List Stone) (i g : Nat) : TkGood l i (List.range' (i + 1) (g - i)) (takenR l i g) := by
  have := tkGood_fold (l := l) (i := i) (List.range' (i + 1) (g - i)) [] none (fun f hf => by simp at hf)
  exact this
theorem takenR_lt {l : List Stone} {i g : Nat} {S : List Nat} (h : takenR l i g = some S) : ∀ k ∈ S, k < g := by
  have hg := takenR_good l i g
  rw [h] at hg
  obtain ⟨f, hf, rfl, _⟩ := hg
  rw [List.mem_range'_1] at hf
  intro k hk
  have := sm_mem.mp hk
  omega
theorem takenR_len {l : List Stone} {i g : Nat} {S : List Nat} (h : takenR l i g = some S) : S.length ≤ g := by
  have hg := takenR_good l i g
  rw [h] at hg
  obtain ⟨f, hf, rfl, _⟩ := hg
  rw [List.mem_range'_1] at hf
  have h1 : (sm l i f).length ≤ (List.range' i (f - i)).length := List.length_filter_le _ _
  rw [List.length_range'] at h1
  omega
def flipS (n : Nat) (S : List Nat) : List Nat := S.reverse.map fun k => n - 1 - k
def fewest (l : List Stone) (i : Nat) (b : Bool) (g : Nat) : Option (List Nat) :=
  if i = g then none
  else if ¬ ((runOf l i b).1 ≤ g ∧ g ≤ (runOf l i b).2) then some []
  else match b with
    | true => takenR l i g
    | false => (takenR (mirL l) (l.length - 1 - i) (l.length - 1 - g)).map (flipS l.length)
def R_few (C : Addr) : FSpec := fun xs os r os' => ∃ (l : List Stone) (i : Nat) (b : Bool) (g : Nat), xs = [.d (rowD C l), .d (.int i), .d (.str (sideS b)), .d (.int g)] ∧ os = [] ∧ os' = [] ∧ l.length ≤ 40 ∧ i < l.length ∧ g < l.length ∧ r = optD (fewest l i b g)
theorem r_few {C : Addr} {l : List Stone} {i : Nat} {b : Bool} {g : Nat} (h : l.length ≤ 40) (hi : i < l.length) (hg : g < l.length) : R_few C [.d (rowD C l), .d (.int i), .d (.str (sideS b)), .d (.int g)] [] (optD (fewest l i b g)) [] := ⟨l, i, b, g, rfl, rfl, rfl, h, hi, hg, rfl⟩
local macro_rules | `(tactic| walk_at "at0") => `(tactic| first | exact atI_st (by walk_at "om") (by walk_at "om") | exact atI_last' (by walk_at "om"))
local macro_rules | `(tactic| walk_at "hR0") => `(tactic| first | exact r_check (by walk_at "om") (by walk_at "om") | exact r_side (isSide_s _) | exact r_mir (by assumption) | exact r_run (by assumption) (by assumption) | exact r_call (by assumption) (by assumption) | exact r_tkr (by first | exact rfl | exact mirU_seq _) (by assumption) (by assumption) (by assumption))
section
variable {P : Program} {w : World} {K : PySem.W.Frag} {mg : Str → Option Value} {base : Heap} {A : Around} {k : Nat}
theorem cg_tkr (T : Tx K mg) (hr : Room k A) (h : 1 ≤ k) : CGs P w K mg base A "taken_to_right" R_tkr := ⟨_, _, ok_tkr T, hr.mono h, T.g_taken_to_right, kp_of T.d_taken_to_right⟩
end
section
variable {P : Program} {w : World} {K : PySem.W.Frag} {mg : Str → Option Value} {base : Heap}
theorem ok_few (T : Tx K mg) : FnR P w K mg base CX0 3 (He.ga K "fewest_taken") (spF K (R_few (He.ga K "Row"))) := by
  obtain ⟨fd, F⟩ := T.d_fewest_taken
  have nd := sc_fewest_taken.nd
  have hb : Binds K fd ["row", "stone", "side", "goal"] [] := F.bindsN fun _ _ _ _ _ _ us hl => match us, hl with | [_, _, _, _], _ => rfl
  refine fn_D F sc_fewest_taken hb ?_ ?_
  · rintro xs os r os' ⟨l, i, b, g, rfl, rfl, rfl, _⟩
    exact ⟨rfl, rfl, by simp⟩
  · rintro cdv A outer s0 H E hr xs os r os' ⟨l, i, b, g, rfl, rfl, rfl, hl, hi, hg, rfl⟩ _
    have f1 := T.f_len
    obtain ⟨t1, g1⟩ := T.v_RIGHT
    have c1 := T.c_Row
    have c2 := T.na_Row_blocks
    have c3 := cg_run (P := P) (w := w) (base := base) T hr (by decide)
    have c4 := cg_side (P := P) (w := w) (base := base) T hr (by decide)
    have c5 := cm_check (P := P) (w := w) (base := base) T hr (by decide)
    have c6 := cg_tkr (P := P) (w := w) (base := base) T hr (by decide)
    have c7 := cg_mir (P := P) (w := w) (base := base) T hr (by decide)
    walk_at "expr"
    walk_at "expr"
    walk_at "expr"
    refine' sds_if (p := decide ((i : Int) = (g : Int))) ?b1 ?b2 ?b3
    case b1 => walk_at "te"
    case b2 =>
      intro h
      have h := of_decide_eq_true h
      have h : i = g := by omega
      walk_at "ret"
      refine ⟨?_, rfl⟩
      unfold fewest; rw [if_pos h]; rfl
    case b3 =>
      intro h
      have h := of_decide_eq_false h
      have h : ¬ i = g := by omega
      refine sds_nil ?_
      refine' sds_asg2 4 5 ?a1 ?_ nd rfl rfl rfl (.inl rfl) (.inr rfl) (.inl rfl) (.inr rfl) rfl rfl
      case a1 => walk_at "ev"
      refine' sds_if (p := !(decide ((runOf l i b).1 ≤ g) && decide (g ≤ (runOf l i b).2))) ?d1 ?d2 ?d3
      case d1 =>
        refine' TD.to ?d4 ?d5
        case d4 => walk_at "te"
        case d5 =>
          have e1 : decide (((runOf l i b).1 : Int) ≤ (g : Int)) = decide ((runOf l i b).1 ≤ g) := by simp
          have e2 : decide ((g : Int) ≤ ((runOf l i b).2 : Int)) = decide (g ≤ (runOf l i b).2) := by simp
          rw [e1, e2]
      case d2 =>
        intro h2
        have h2 : ¬ ((runOf l i b).1 ≤ g ∧ g ≤ (runOf l i b).2) := fun hh => by simp [hh.1, hh.2] at h2
        walk_at "ret"
        refine ⟨?_, rfl⟩
        unfold fewest; rw [if_neg h, if_pos h2]; rfl
      case d3 =>
        intro h2
        have h2 : ¬ ¬ ((runOf l i b).1 ≤ g ∧ g ≤ (runOf l i b).2) := by simpa using h2
        refine sds_nil ?_
        cases b with
        | true =>
          refine' sds_if (p := true) ?e1 ?e2 (fun z => nomatch z)
          case e1 =>
            refine' TD.to (td_eqS ?e3 ?e4 ?e5) ?e6
            case e3 => walk_at "ev"
            case e4 => walk_at "ev"
            case e5 => exact rfl
            case e6 => exact rfl
          case e2 =>
            intro _
            walk_at "ret"
            refine ⟨?_, rfl⟩
            unfold fewest; rw [if_neg h, if_neg h2]
        | false =>
          refine' sds_if (p := false) ?e1 (fun z => nomatch z) ?e2
          case e1 =>
            refine' TD.to (td_eqS ?e3 ?e4 ?e5) ?e6
            case e3 => walk_at "ev"
            case e4 => walk_at "ev"
            case e5 => exact rfl
            case e6 => exact rfl
          case e2 =>
            intro _
            refine sds_nil ?_
            walk_at "set 6"
            have q1 : ((l.map stD).length : Int) - 1 - (i : Int) = ((l.length - 1 - i : Nat) : Int) := by rw [List.length_map]; omega
            have q2 : ((l.map stD).length : Int) - 1 - (g : Int) = ((l.length - 1 - g : Nat) : Int) := by rw [List.length_map]; omega
            refine' sds_set 7 (ed_call c6 (ad_cons ?m1 (ad_cons (ED.to ?m2 (congrArg (fun z => VD.d (D.int z)) q1) rfl) (ad_cons (ED.to ?m3 (congrArg (fun z => VD.d (D.int z)) q2) rfl) ad_nil rfl) rfl) rfl) allD3 (r_tkr (mirU_seq l) (by rw [mirL_length]; omega) (by rw [mirL_length]; omega) (by rw [mirL_length]; omega)) rfl rfl rfl rfl) ?_ nd rfl (.inl rfl) rfl (.inl rfl)
            case m1 => walk_at "ev"
            case m2 => walk_at "ev"
            case m3 => walk_at "ev"
            have q3 : fewest l i false g = (takenR (mirL l) (l.length - 1 - i) (l.length - 1 - g)).map (flipS l.length) := by unfold fewest; rw [if_neg h, if_neg h2]
            rw [q3]
            have q4 : ∀ S, takenR (mirL l) (l.length - 1 - i) (l.length - 1 - g) = some S → ∀ k ∈ S, k < l.length - 1 - g := fun S hS => takenR_lt hS
            cases hq : takenR (mirL l) (l.length - 1 - i) (l.length - 1 - g) with
            | none =>
              refine' sds_ret (ed_ifT (TD.to (td_isN ?n1) ?n2) ?n3) ⟨rfl, rfl⟩
              case n1 => walk_at "ev"
              case n2 => exact rfl
              case n3 => exact ed_non
            | some S =>
              have q5 := q4 S hq
              refine' sds_ret (ed_ifF (TD.to (td_isN ?n1) ?n2) (ED.lst (ed_lcP (xs := S.reverse) (f := fun k => D.int (k : Nat)) (own := [("number", 8)]) (gv := [8]) (ItD.to (it_list (ed_revL ?h1)) ?h2) (fun k => some (D.int (l.length - 1 - k : Nat))) ?h3 ?h4 ?hgv (blkOk_by rfl) nd rfl (fun _ => rfl)) ?h5)) ⟨rfl, rfl⟩
              case n1 => walk_at "ev"
              case n2 => exact rfl
              case h1 => walk_at "ev"
              case h2 => rw [iN_map, List.map_reverse]
              case h4 =>
                have := takenR_len hq
                rw [sizeLine_eq, List.length_reverse]; omega
              case h3 =>
                intro k hk
                have hk2 := q5 k (List.mem_reverse.mp hk)
                refine' lcP1 8 nd rfl rfl (fun _ _ _ _ _ => tds_nil) ?t2
                intro e he
                cases he
                intro _ _ _ _ _
                refine' ED.to ?k1 ?k2 rfl
                case k1 => walk_at "ev"
                case k2 =>
                  have e9 : ((l.map stD).length : Int) - 1 - (k : Int) = ((l.length - 1 - k : Nat) : Int) := by rw [List.length_map]; omega
                  rw [e9]
              case hgv => decide
              case h5 =>
                unfold flipS
                rw [iN_map, List.map_map]
                exact congrFun (List.filterMap_eq_map (f := (fun n : Nat => D.int n) ∘ fun k => l.length - 1 - k)) S.reverse
end
theorem dj_cons {js : List Int} {a : Stone} {l : List Stone} {n : Nat} : ((a :: l).zipIdx n).filterMap (fun p => if (p.2 : Int) ∈ js then none else some p.1) = if (n : Int) ∈ js then (l.zipIdx (n + 1)).filterMap (fun p => if (p.2 : Int) ∈ js then none else some p.1) else a :: (l.zipIdx (n + 1)).filterMap (fun p => if (p.2 : Int) ∈ js then none else some p.1) := by
  rw [List.zipIdx_cons, List.filterMap_cons]
  by_cases h : (n : Int) ∈ js <;> simp [h]
theorem dj_low {js : List Int} : ∀ (l : List Stone) (n : Nat), (∀ j ∈ js, j < n) → (l.zipIdx n).filterMap (fun p => if (p.2 : Int) ∈ js then none else some p.1) = l
  | [], _, _ => rfl
  | a :: l, n, h => by
    rw [dj_cons, if_neg (fun hn => by have := h _ hn; omega), dj_low l (n + 1) (fun j hj => by have := h j hj; omega)]
theorem dj_len {o : Nat} : ∀ (l : List Stone) (n : Nat), n ≤ o → o < n + l.length → ((l.zipIdx n).filterMap (fun p => if (p.2 : Int) ∈ [(o : Int)] then none else some p.1)).length = l.length - 1
  | [], n, h1, h2 => by simp at h2; omega
  | a :: l, n, h1, h2 => by
    rw [dj_cons]
    by_cases h : n = o
    · subst h
      rw [if_pos (by simp), dj_low l (n + 1) (fun j hj => by simp at hj; omega)]; rfl
    · rw [if_neg (by simp; omega), List.length_cons, dj_len l (n + 1) (by omega) (by simp at h2; omega)]
      simp at h2 ⊢; omega
theorem dropJ_len {l : List Stone} {o : Nat} (h : o < l.length) : (dropJ [(o : Int)] l).length = l.length - 1 := dj_len l 0 (Nat.zero_le _) (by omega)
def rng (p : Nat × Nat) : List Nat := List.range' p.1 (p.2 + 1 - p.1)
def upO (o k : Nat) : Nat := if o ≤ k then k + 1 else k
def dnO (o k : Nat) : Nat := if o < k then k - 1 else k
def spared (l : List Stone) (i : Nat) (b : Bool) (o : Nat) : List Nat :=
  if i = o then (rng (runOf l i b)).filter fun k => !decide (k = i)
  else (rng (runOf l i b)).filter fun k => !decide (k ∈ (rng (runOf (dropJ [(o : Int)] l) (dnO o i) b)).map (upO o)) && !decide (k = o)
theorem runOf_lt {l : List Stone} {i : Nat} {b : Bool} (h : i < l.length) : (runOf l i b).2 < l.length := by
  cases b with
  | true => exact rightEnd_lt h
  | false => exact h
theorem runOf_le {l : List Stone} {i : Nat} {b : Bool} (h : i < l.length) : (runOf l i b).1 ≤ (runOf l i b).2 := by
  cases b with
  | true => exact rightEnd_ge
  | false =>
    show l.length - 1 - rightEnd (mirL l) (l.length - 1 - i) ≤ i
    have := rightEnd_ge (l := mirL l) (i := l.length - 1 - i)
    omega
theorem rng_int (p : Nat × Nat) (h : p.1 ≤ p.2) : rngD (p.1 : Int) (((p.2 : Int) + 1 - (p.1 : Int)).toNat) = (rng p).map (fun k => D.int (k : Nat)) := by
  have e : ((p.2 : Int) + 1 - (p.1 : Int)).toNat = p.2 + 1 - p.1 := by omega
  rw [e]; exact rngD_nat _ _
theorem rng_mem {p : Nat × Nat} {k : Nat} : k ∈ rng p ↔ p.1 ≤ k ∧ k ≤ p.2 := by
  unfold rng; rw [List.mem_range'_1]; omega
def R_spared (C : Addr) : FSpec := fun xs os r os' => ∃ (l : List Stone) (i : Nat) (b : Bool) (o : Nat), xs = [.d (rowD C l), .d (.int i), .d (.str (sideS b)), .d (.int o)] ∧ os = [] ∧ os' = [] ∧ Valid l ∧ i < l.length ∧ o < l.length ∧ r = nsD (spared l i b o)
theorem r_spared {C : Addr} {l : List Stone} {i : Nat} {b : Bool} {o : Nat} (h : Valid l) (hi : i < l.length) (ho : o < l.length) : R_spared C [.d (rowD C l), .d (.int i), .d (.str (sideS b)), .d (.int o)] [] (nsD (spared l i b o)) [] := ⟨l, i, b, o, rfl, rfl, rfl, h, hi, ho, rfl⟩
local macro_rules | `(tactic| walk_at "hR0") => `(tactic| first | exact r_check (by walk_at "om") (by walk_at "om") | exact r_side (isSide_s _) | exact r_mir (by assumption) | exact r_run (by assumption) (by assumption) | exact r_call (by assumption) (by assumption) | exact r_without (by assumption) (by walk_at "om") (by walk_at "om"))
section
variable {P : Program} {w : World} {K : PySem.W.Frag} {mg : Str → Option Value} {base : Heap} {A : Around} {k : Nat}
theorem co_row (T : Tx K mg) (hr : Room k A) (h : 3 ≤ k) : COs P w K mg base A (He.ga K "Row") (R_call (He.ga K "Row")) := ⟨_, _, ok_call T, hr.mono h, ⟨T.m_Row_call.at_, T.m_Row_call.fn, T.fi_Row_call⟩⟩
theorem cm_without (T : Tx K mg) (hr : Room k A) (h : 6 ≤ k) : CMs P w K mg base A (He.ga K "Row") "without" (starR (R_without (He.ga K "Row"))) := ⟨T.c_Row, _, _, ok_without T, hr.mono h, T.m_Row_without⟩
end
section
variable {P : Program} {w : World} {K : PySem.W.Frag} {mg : Str → Option Value} {base : Heap}
theorem ok_spared (T : Tx K mg) : FnR P w K mg base CX0 7 (He.ga K "spared_without") (spF K (R_spared (He.ga K "Row"))) := by
  obtain ⟨fd, F⟩ := T.d_spared_without
  have nd := sc_spared_without.nd
  have hb : Binds K fd ["row", "stone", "side", "other"] [] := F.bindsN fun _ _ _ _ _ _ us hl => match us, hl with | [_, _, _, _], _ => rfl
  refine fn_D F sc_spared_without hb ?_ ?_
  · rintro xs os r os' ⟨l, i, b, o, rfl, rfl, rfl, _⟩
    exact ⟨rfl, rfl, by simp⟩
  · rintro cdv A outer s0 H E hr xs os r os' ⟨l, i, b, o, rfl, rfl, rfl, hv, hi, ho, rfl⟩ _
    have f1 := T.f_range
    have f2 := T.f_int
    have c1 := T.c_Row
    have c2 := T.na_Row_blocks
    have c3 := cg_run (P := P) (w := w) (base := base) T hr (by decide)
    have c4 := co_row (P := P) (w := w) (base := base) T hr (by decide)
    have c5 := cm_check (P := P) (w := w) (base := base) T hr (by decide)
    have c6 := cm_without (P := P) (w := w) (base := base) T hr (by decide)
    have hl := hv.1
    have w1 := runOf_lt (b := b) hi
    have w2 := runOf_le (b := b) hi
    refine' sds_asg2 4 5 ?a1 ?_ nd rfl rfl rfl (.inl rfl) (.inr rfl) (.inl rfl) (.inr rfl) rfl rfl
    case a1 => walk_at "ev"
    walk_at "expr"
    refine' sds_if (p := decide ((i : Int) = (o : Int))) ?b1 ?b2 ?b3
    case b1 => walk_at "te"
    case b2 =>
      intro h
      have h := of_decide_eq_true h
      have h : i = o := by omega
      refine' sds_ret (ED.lst (ed_lcP (xs := rng (runOf l i b)) (f := fun k => D.int (k : Nat)) (own := [("number", 10)]) (gv := [10]) (ItD.to (it_range2 ?i1 ?i2 ?i3 ?i8 ?i4 ?i5 ?i6) ?i7) (fun k => if (!decide (k = i)) = true then some (D.int (k : Nat)) else none) ?l1 ?l2 ?l3 (blkOk_by rfl) nd rfl (fun _ => rfl)) ?l4) ?l5
      case i1 => walk_at "ev"
      case i2 => walk_at "ev"
      case i3 => exact rfl
      case i8 => exact f1
      case i4 => omega
      case i5 => exact rfl
      case i6 => exact rfl
      case i7 => exact rng_int _ w2
      case l2 => unfold rng; rw [List.length_range', sizeLine_eq]; omega
      case l3 => decide
      case l1 =>
        intro k hk
        refine' lcP1 10 nd rfl rfl ?t1 ?t2
        case t1 =>
          intro _ _ _ _ _
          refine' tds_one (TD.to (td_neI ?k1 ?k2) ?k3)
          case k1 => walk_at "ev"
          case k2 => walk_at "ev"
          case k3 =>
            rw [decide_eq_decide.mpr (show ((k : Int) = (i : Int)) ↔ k = i by omega)]
            by_cases hx : (!decide (k = i)) = true
            · rw [if_pos hx, hx]; rfl
            · rw [if_neg hx, Bool.eq_false_iff.mpr hx]; rfl
        case t2 =>
          intro e he
          by_cases h : k = i
          · simp [h] at he
          · simp only [h, decide_false, Bool.not_false, if_true] at he
            cases he
            intro _ _ _ _ _
            walk_at "ev"
      case l4 => exact fm_nat _ _
      case l5 =>
        refine ⟨?_, rfl⟩
        unfold spared; rw [if_pos h]
    case b3 =>
      intro h
      have h := of_decide_eq_false h
      have h : ¬ i = o := by omega
      refine sds_nil ?_
      walk_at "set 6"
      have e1 := dropJ_len ho
      have w3 : dnO o i < (dropJ [(o : Int)] l).length := by unfold dnO; split <;> omega
      have w4 := runOf_lt (b := b) w3
      have w5 := runOf_le (b := b) w3
      have hl2 : (dropJ [(o : Int)] l).length ≤ 40 := by omega
      have e2 : (i : Int) - (if decide ((o : Int) < (i : Int)) = true then 1 else 0) = ((dnO o i : Nat) : Int) := by
        unfold dnO
        by_cases h3 : o < i
        · rw [if_pos (by simpa using h3), if_pos h3]; omega
        · rw [if_neg (by simpa using h3), if_neg h3]; omega
      refine' sds_asg2 7 8 (ed_call c3 (ad_cons ?m1 (ad_cons (ED.to ?m2 (congrArg (fun z => VD.d (D.int z)) e2) rfl) (ad_cons ?m3 ad_nil rfl) rfl) rfl) allD3 (r_run hl2 w3) rfl rfl rfl rfl) ?_ nd rfl rfl rfl (.inl rfl) (.inr rfl) (.inl rfl) (.inr rfl) rfl rfl
      case m1 => walk_at "ev"
      case m2 => walk_at "ev"
      case m3 => walk_at "ev"
      have e5 : (rng (runOf (dropJ [(o : Int)] l) (dnO o i) b)).filterMap (fun k => some (D.int (upO o k : Nat))) = (iN ((rng (runOf (dropJ [(o : Int)] l) (dnO o i) b)).map (upO o))).map D.int := by
        rw [iN_map, List.map_map]
        exact congrFun (List.filterMap_eq_map (f := (fun n : Nat => D.int n) ∘ upO o)) _
      refine' sds_set 9 (ED.lst (ed_lcP (xs := rng (runOf (dropJ [(o : Int)] l) (dnO o i) b)) (f := fun k => D.int (k : Nat)) (own := [("number", 10)]) (gv := [10]) (ItD.to (it_range2 ?i1 ?i2 ?i3 ?i8 ?i4 ?i5 ?i6) ?i7) (fun k => some (D.int (upO o k : Nat))) ?l1 ?l3 ?l4 (blkOk_by rfl) nd rfl (fun _ => rfl)) e5) ?l2 nd rfl (.inr rfl) rfl (.inl rfl)
      case i8 => exact f1
      case i1 => walk_at "ev"
      case i2 => walk_at "ev"
      case i3 => exact rfl
      case i4 => omega
      case i5 => exact rfl
      case i6 => exact rfl
      case i7 => exact rng_int _ w5
      case l3 => unfold rng; rw [List.length_range', sizeLine_eq]; omega
      case l4 => decide
      case l1 =>
        intro k hk
        refine' lcP1 10 nd rfl rfl (fun _ _ _ _ _ => tds_nil) ?t9
        intro e he
        cases he
        intro _ _ _ _ _
        refine' ED.to ?k1 ?k2 rfl
        case k1 => walk_at "ev"
        case k2 =>
          unfold upO
          by_cases h3 : o ≤ k
          · rw [if_pos (by simpa using h3), if_pos h3]; rfl
          · rw [if_neg (by simpa using h3), if_neg h3]; simp
      case l2 =>
        refine' sds_ret (ED.lst (ed_lcP (xs := rng (runOf l i b)) (f := fun k => D.int (k : Nat)) (own := [("number", 10)]) (gv := [10]) (ItD.to (it_range2 ?i1 ?i2 ?i3 ?i8 ?i4 ?i5 ?i6) ?i7) (fun k => if (!decide (k ∈ (rng (runOf (dropJ [(o : Int)] l) (dnO o i) b)).map (upO o)) && !decide (k = o)) = true then some (D.int (k : Nat)) else none) ?l1 ?l2 ?l3 (blkOk_by rfl) nd rfl (fun _ => rfl)) ?l4) ?l5
        case i1 => walk_at "ev"
        case i2 => walk_at "ev"
        case i3 => exact rfl
        case i8 => exact f1
        case i4 => omega
        case i5 => exact rfl
        case i6 => exact rfl
        case i7 => exact rng_int _ w2
        case l2 => unfold rng; rw [List.length_range', sizeLine_eq]; omega
        case l3 => decide
        case l1 =>
          intro k hk
          refine' lcP1 10 nd rfl rfl ?t1 ?t2
          case t1 =>
            intro _ _ _ _ _
            refine' tds_one (TD.to (TW.td (tw_and (td_nin (l := iN ((rng (runOf (dropJ [(o : Int)] l) (dnO o i) b)).map (upO o))) ?k1 ?k2 ?k4 ?k5) fun _ => tw_and1 (td_neI ?k6 ?k7))) ?k3)
            case k1 => walk_at "ev"
            case k2 => walk_at "ev"
            case k4 => exact rfl
            case k5 => exact rfl
            case k6 => walk_at "ev"
            case k7 => walk_at "ev"
            case k3 =>
              rw [decide_eq_decide.mpr (mem_iN (b := (rng (runOf (dropJ [(o : Int)] l) (dnO o i) b)).map (upO o)) (i := k)), decide_eq_decide.mpr (show ((k : Int) = (o : Int)) ↔ k = o by omega)]
              by_cases hx : (!decide (k ∈ (rng (runOf (dropJ [(o : Int)] l) (dnO o i) b)).map (upO o)) && !decide (k = o)) = true
              · rw [if_pos hx, hx]; rfl
              · rw [if_neg hx, Bool.eq_false_iff.mpr hx]; rfl
          case t2 =>
            intro e he
            by_cases hx : (!decide (k ∈ (rng (runOf (dropJ [(o : Int)] l) (dnO o i) b)).map (upO o)) && !decide (k = o)) = true
            · rw [if_pos hx] at he
              cases he
              intro _ _ _ _ _
              walk_at "ev"
            · rw [if_neg hx] at he; cases he
        case l4 => exact fm_nat _ _
        case l5 =>
          refine ⟨?_, rfl⟩
          unfold spared; rw [if_neg h]
end
/-! ### the law's own removal -/
theorem dj_step {big : List Int} {j : Nat} (hb : ∀ x ∈ big, (j : Int) < x) : ∀ (l : List Stone) (n : Nat), n ≤ j →
    (((l.zipIdx n).filterMap (fun p => if (p.2 : Int) ∈ big then none else some p.1)).zipIdx n).filterMap (fun p => if (p.2 : Int) ∈ [(j : Int)] then none else some p.1) = (l.zipIdx n).filterMap (fun p => if (p.2 : Int) ∈ ((j : Int) :: big) then none else some p.1)
  | [], _, _ => rfl
  | a :: l, n, h => by
    have hn : (n : Int) ∉ big := fun z => by have := hb _ z; omega
    rw [dj_cons (js := big), if_neg hn, dj_cons (js := [(j : Int)]), dj_cons (js := (j : Int) :: big)]
    by_cases e : n = j
    · subst e
      rw [if_pos (by simp), if_pos (by simp), dj_low _ (n + 1) (fun x hx => by simp at hx; omega)]
      have aux : ∀ (l : List Stone) (m : Nat), n < m → (l.zipIdx m).filterMap (fun p => if (p.2 : Int) ∈ big then none else some p.1) = (l.zipIdx m).filterMap (fun p => if (p.2 : Int) ∈ ((n : Int) :: big) then none else some p.1) := by
        intro l
        induction l with
        | nil => intro m _; rfl
        | cons c l ih =>
          intro m hm
          rw [dj_cons (js := big), dj_cons (js := (n : Int) :: big), ih (m + 1) (by omega)]
          have : ((m : Int) ∈ (n : Int) :: big) ↔ (m : Int) ∈ big := by
            rw [List.mem_cons]
            constructor
            · rintro (h | h)
              · omega
              · exact h
            · exact .inr
          simp only [this]
      exact aux l (n + 1) (by omega)
    · rw [if_neg (by simp; omega), if_neg (by simp; exact ⟨by omega, hn⟩), dj_step hb l (n + 1) (by omega)]
theorem dropJ_step {big : List Int} {j : Nat} (hb : ∀ x ∈ big, (j : Int) < x) (l : List Stone) : dropJ [(j : Int)] (dropJ big l) = dropJ ((j : Int) :: big) l := dj_step hb l 0 (Nat.zero_le _)
theorem dj_ge {big : List Int} : ∀ (l : List Stone) (n c : Nat), (∀ x ∈ big, (n : Int) + c ≤ x) → c ≤ l.length → c ≤ ((l.zipIdx n).filterMap (fun p => if (p.2 : Int) ∈ big then none else some p.1)).length
  | _, _, 0, _, _ => Nat.zero_le _
  | [], _, c + 1, _, h => by simp at h
  | a :: l, n, c + 1, hb, h => by
    rw [dj_cons, if_neg (fun z => by have := hb _ z; omega), List.length_cons]
    have := dj_ge (big := big) l (n + 1) c (fun x hx => by have := hb x hx; omega) (by simp at h; omega)
    omega
theorem dropJ_ge {big : List Int} {j : Nat} (hb : ∀ x ∈ big, (j : Int) < x) {l : List Stone} (h : j < l.length) : j < (dropJ big l).length :=
  dj_ge l 0 (j + 1) (fun x hx => by have := hb x hx; omega) h
theorem dropJ_nil (l : List Stone) : dropJ [] l = l := dj_low l 0 (fun j hj => by simp at hj)
def R_less (C : Addr) : FSpec := fun xs os r os' => ∃ (l : List Stone) (js : List Nat), xs = [.d (rowD C l), .d (nsD js)] ∧ os = [] ∧ os' = [] ∧ Valid l ∧ js.Pairwise (· < ·) ∧ (∀ j ∈ js, j < l.length) ∧ r = rowD C (dropJ (iN js) l)
theorem r_less {C : Addr} {l : List Stone} {js : List Nat} (h : Valid l) (h1 : js.Pairwise (· < ·)) (h2 : ∀ j ∈ js, j < l.length) : R_less C [.d (rowD C l), .d (nsD js)] [] (rowD C (dropJ (iN js) l)) [] := ⟨l, js, rfl, rfl, rfl, h, h1, h2, rfl⟩
theorem iN_sorted {js : List Nat} (h : js.Pairwise (· < ·)) : (iN js).Pairwise (· < ·) := by
  rw [List.pairwise_map]; exact h.imp (fun h => by omega)
theorem iN_sorted_le {js : List Nat} (h : js.Pairwise (· < ·)) : (iN js).Pairwise (· ≤ ·) := (iN_sorted h).imp (fun h => Int.le_of_lt h)
section
variable {P : Program} {w : World} {K : PySem.W.Frag} {mg : Str → Option Value} {base : Heap}
theorem ok_less (T : Tx K mg) : FnR P w K mg base CX0 7 (He.ga K "_law_less") (spF K (R_less (He.ga K "Row"))) := by
  obtain ⟨fd, F⟩ := T.d_law_less
  have nd := sc_law_less.nd
  have hb : Binds K fd ["_law_one", "_law_numbers"] [] := F.bindsN fun _ _ _ _ _ _ us hl => match us, hl with | [_, _], _ => rfl
  refine fn_D F sc_law_less hb ?_ ?_
  · rintro xs os r os' ⟨l, js, rfl, rfl, rfl, _⟩
    exact ⟨rfl, rfl, by simp⟩
  · rintro cdv A outer s0 H E hr xs os r os' ⟨l, js, rfl, rfl, rfl, hv, hj1, hj2, rfl⟩ _
    have f1 := T.f_sorted
    have c6 := cm_without (P := P) (w := w) (base := base) T hr (by decide)
    refine' sds_for (ds := ((iN js).map D.int).reverse) ?hi (fun i ρ => ∃ (x : Option VD), ρ = ⟨0, [some (.d (rowD (He.ga K "Row") (dropJ (iN (js.drop (js.length - i))) l))), some (.d (nsD js)), x], []⟩) ?h0 ?hs ?hd PassesOwn.never rfl (fun _ => rfl)
    case hi =>
      refine' it_list (ed_revL (ed_blt (cb_sorted (l := iN js) (l' := iN js) ?k1 ?k2 ?k3) ?k4 f1 boot_sorted rfl (by decide) rfl rfl rfl))
      case k4 => walk_at "args"
      case k1 => exact rfl
      case k2 => exact ⟨_, rfl⟩
      case k3 =>
        intro k hp hs
        exact List.Perm.eq_of_pairwise (fun a b _ _ h1 h2 => Int.le_antisymm h1 h2) hs (iN_sorted_le hj1) hp
    case h0 =>
      refine ⟨none, ?_⟩
      rw [Nat.sub_zero, List.drop_length]
      show (⟨0, [some (.d (rowD _ l)), _, _], []⟩ : DL.Env) = ⟨0, [some (.d (rowD _ (dropJ [] l))), _, _], []⟩
      rw [dropJ_nil]
    case hs =>
      rintro i d ρ hd ⟨x, rfl⟩
      have hlen : i < js.length := by
        have := (List.getElem?_eq_some_iff.mp hd).1
        simpa using this
      have hm : js.length - 1 - i < js.length := by omega
      have e1 : d = .int ((js[js.length - 1 - i] : Nat) : Int) := by
        rw [iN_map, List.getElem?_reverse (by simpa using hlen)] at hd
        simp [hm] at hd
        exact hd.symm
      subst e1
      generalize hjj : js[js.length - 1 - i] = j
      have e2 : js.drop (js.length - (i + 1)) = j :: js.drop (js.length - i) := by
        have e3 : js.length - (i + 1) = js.length - 1 - i := by omega
        rw [e3, List.drop_eq_getElem_cons hm, hjj]
        have e4 : js.length - 1 - i + 1 = js.length - i := by omega
        rw [e4]
      have hb : ∀ x ∈ iN (js.drop (js.length - i)), (j : Int) < x := by
        have hp := hj1.sublist (List.drop_sublist (js.length - (i + 1)) js)
        rw [e2, List.pairwise_cons] at hp
        intro x hx
        obtain ⟨y, hy, rfl⟩ := List.mem_map.mp hx
        have := hp.1 y hy
        omega
      have hjl : j < l.length := hj2 j (hjj ▸ List.getElem_mem hm)
      have w1 := dropJ_ge hb hjl
      have w2 : Valid (dropJ (iN (js.drop (js.length - i))) l) := hv.sub (dropJ_sub _ _)
      refine' ⟨_, ?g1, ?_⟩
      case g1 => walk_at "nm 2"
      refine' sds_set 0 (ed_meth c6 ?m1 (ad_cons ?m2 ad_nil rfl) allD1 (r_without (j := (j : Int)) w2 (by omega) (by omega)) ?m3 rfl rfl rfl) ?_ nd rfl (.inl rfl) rfl (.inl rfl)
      case m1 => walk_at "ev"
      case m2 => walk_at "ev"
      case m3 => decide
      refine sds_nil ⟨some (.d (.int j)), ?_⟩
      rw [dropJ_step hb l, e2]; rfl
    case hd =>
      rintro ρ ⟨x, rfl⟩
      walk_at "ret"
      refine ⟨?_, rfl⟩
      rw [List.length_reverse, List.length_map, List.length_map, Nat.sub_self, List.drop_zero]
end
/-! ### what falls when some are taken away -/
def keep (n : Nat) (js : List Nat) : List Nat := (List.range n).filter fun k => !decide (k ∈ js)
theorem keep_mem {n : Nat} {js : List Nat} {k : Nat} : k ∈ keep n js ↔ k < n ∧ k ∉ js := by
  unfold keep; rw [List.mem_filter, List.mem_range]; simp
theorem keep_sorted (n : Nat) (js : List Nat) : (keep n js).Pairwise (· < ·) := List.pairwise_lt_range.sublist List.filter_sublist
theorem dj_keep {js : List Nat} : ∀ (l : List Stone) (n : Nat), (l.zipIdx n).filterMap (fun p => if (p.2 : Int) ∈ iN js then none else some p.1) = ((List.range' n l.length).filter (fun k => !decide (k ∈ js))).map (fun k => l.getD (k - n) (0, 0))
  | [], _ => rfl
  | a :: l, n => by
    rw [dj_cons, dj_keep l (n + 1), List.length_cons, List.range'_succ, List.filter_cons]
    have e : ((List.range' (n + 1) l.length).filter (fun k => !decide (k ∈ js))).map (fun k => l.getD (k - (n + 1)) (0, 0)) = ((List.range' (n + 1) l.length).filter (fun k => !decide (k ∈ js))).map (fun k => (a :: l).getD (k - n) (0, 0)) := by
      apply List.map_congr_left
      intro k hk
      have hk := (List.mem_filter.mp hk).1
      rw [List.mem_range'_1] at hk
      have e1 : k - n = (k - (n + 1)) + 1 := by omega
      rw [e1, List.getD_cons_succ]
    by_cases h : n ∈ js
    · rw [if_pos (mem_iN.mpr h), e]; simp [h]
    · rw [if_neg (fun z => h (mem_iN.mp z)), e]; simp [h]
theorem dropJ_keep (l : List Stone) (js : List Nat) : dropJ (iN js) l = (keep l.length js).map (fun k => l.getD k (0, 0)) := by
  have := dj_keep (js := js) l 0
  rw [← List.range_eq_range'] at this
  exact this
theorem idxOf_iN {i : Nat} : ∀ (b : List Nat), (iN b).idxOf (i : Int) = b.idxOf i
  | [] => rfl
  | x :: b => by
    show List.idxOf (i : Int) ((x : Int) :: iN b) = _
    rw [List.idxOf_cons, List.idxOf_cons, idxOf_iN b]
    by_cases h : x = i
    · subst h; simp
    · have h1 : (x == i) = false := by simpa using h
      have h2 : ((x : Int) == (i : Int)) = false := by simp; omega
      rw [h1, h2]
def fells (l : List Stone) (js : List Nat) (i : Nat) (b : Bool) : List Nat :=
  ((keep l.length js).drop (runOf (dropJ (iN js) l) ((keep l.length js).idxOf i) b).1).take ((runOf (dropJ (iN js) l) ((keep l.length js).idxOf i) b).2 + 1 - (runOf (dropJ (iN js) l) ((keep l.length js).idxOf i) b).1)
def R_fells (C : Addr) : FSpec := fun xs os r os' => ∃ (l : List Stone) (js : List Nat) (i : Nat) (b : Bool), xs = [.d (rowD C l), .d (nsD js), .d (.int i), .d (.str (sideS b))] ∧ os = [] ∧ os' = [] ∧ Valid l ∧ js.Pairwise (· < ·) ∧ (∀ j ∈ js, j < l.length) ∧ i < l.length ∧ i ∉ js ∧ r = nsD (fells l js i b)
theorem r_fells {C : Addr} {l : List Stone} {js : List Nat} {i : Nat} {b : Bool} (h : Valid l) (h1 : js.Pairwise (· < ·)) (h2 : ∀ j ∈ js, j < l.length) (h3 : i < l.length) (h4 : i ∉ js) : R_fells C [.d (rowD C l), .d (nsD js), .d (.int i), .d (.str (sideS b))] [] (nsD (fells l js i b)) [] := ⟨l, js, i, b, rfl, rfl, rfl, h, h1, h2, h3, h4, rfl⟩
theorem cutD_nat {ds : List D} {a z : Nat} (h1 : a ≤ z) (h2 : z ≤ ds.length) : DL.cutD ds (some (a : Int)) (some (z : Int)) = (ds.drop a).take (z - a) := by
  unfold DL.cutD
  rw [HT.sIx_nat, HT.sIx_nat, Nat.min_eq_left h2, Nat.min_eq_left (show a ≤ ds.length by omega)]
local macro_rules | `(tactic| walk_at "len0") => `(tactic| exact cb_lenI (by assumption) r_len (by walk_at "om") (by walk_at "om"))
section
variable {P : Program} {w : World} {K : PySem.W.Frag} {mg : Str → Option Value} {base : Heap} {A : Around} {k : Nat}
theorem cg_less (T : Tx K mg) (hr : Room k A) (h : 7 ≤ k) : CGs P w K mg base A "_law_less" (R_less (He.ga K "Row")) := ⟨_, _, ok_less T, hr.mono h, T.g_law_less, kp_of T.d_law_less⟩
theorem room_u (hr : Room k A) : A.units + 65 < cLine := by have := hr.un; omega
end
section
variable {P : Program} {w : World} {K : PySem.W.Frag} {mg : Str → Option Value} {base : Heap}
theorem ok_fells (T : Tx K mg) : FnR P w K mg base CX0 8 (He.ga K "_law_fells") (spF K (R_fells (He.ga K "Row"))) := by
  obtain ⟨fd, F⟩ := T.d_law_fells
  have nd := sc_law_fells.nd
  have hb : Binds K fd ["_law_one", "_law_numbers", "_law_stone", "_law_side"] [] := F.bindsN fun _ _ _ _ _ _ us hl => match us, hl with | [_, _, _, _], _ => rfl
  refine fn_D F sc_law_fells hb ?_ ?_
  · rintro xs os r os' ⟨l, js, i, b, rfl, rfl, rfl, _⟩
    exact ⟨rfl, rfl, by simp⟩
  · rintro cdv A outer s0 H E hr xs os r os' ⟨l, js, i, b, rfl, rfl, rfl, hv, hj1, hj2, hi, hij, rfl⟩ _
    have f1 := T.f_len
    have f2 := T.f_range
    have c1 := cs_len (P := P) (w := w) (base := base) T hr (by decide)
    have c2 := cg_less (P := P) (w := w) (base := base) T hr (by decide)
    have c3 := co_row (P := P) (w := w) (base := base) T hr (by decide)
    have hl := hv.1
    have hu := room_u hr
    refine' sds_lcP 4 (xs := List.range l.length) (f := fun k => D.int (k : Nat)) (own := [("_law_number", 7)]) (gv := [7]) (ItD.to (it_range1 ?i1 ?i3 f2 ?i4 ?i5) ?i7) (fun k => if (!decide (k ∈ js)) = true then some (D.int (k : Nat)) else none) ?l1 ?l2 ?l3 ?l4 (blkOk_by rfl) nd rfl rfl rfl rfl (fun _ => rfl)
    case i1 => walk_at "ev"
    case i3 => exact rfl
    case i4 => omega
    case i5 => exact rfl
    case i7 =>
      have := rngD_nat 0 l.length
      rw [← List.range_eq_range'] at this
      rw [← this]; rfl
    case l3 => rw [List.length_range, sizeLine_eq]; omega
    case l4 => decide
    case l1 =>
      intro k hk
      refine' lcP1 7 nd rfl rfl ?t1 ?t2
      case t1 =>
        intro _ _ _ _ _
        refine' tds_one (TD.to (td_nin (l := iN js) ?k1 ?k2 ?k4 ?k5) ?k3)
        case k1 => walk_at "ev"
        case k2 => walk_at "ev"
        case k4 => exact rfl
        case k5 => exact rfl
        case k3 =>
          rw [decide_eq_decide.mpr (mem_iN (b := js) (i := k))]
          by_cases hx : (!decide (k ∈ js)) = true
          · rw [if_pos hx, hx]; rfl
          · rw [if_neg hx, Bool.eq_false_iff.mpr hx]; rfl
      case t2 =>
        intro e he
        by_cases hx : (!decide (k ∈ js)) = true
        · rw [if_pos hx] at he
          cases he
          intro _ _ _ _ _
          walk_at "ev"
        · rw [if_neg hx] at he; cases he
    case l2 =>
      rw [fm_nat]
      have e4 : (List.range l.length).filter (fun k => !decide (k ∈ js)) = keep l.length js := rfl
      rw [e4]
      have m1 : i ∈ keep l.length js := keep_mem.mpr ⟨hi, hij⟩
      have m2 : (keep l.length js).idxOf i < (keep l.length js).length := List.idxOf_lt_length_iff.mpr m1
      have m3 : (dropJ (iN js) l).length = (keep l.length js).length := by rw [dropJ_keep, List.length_map]
      have m4 : (keep l.length js).idxOf i < (dropJ (iN js) l).length := by omega
      have m5 : (dropJ (iN js) l).length ≤ 40 := Nat.le_trans (dropJ_sub _ _).length_le hl
      have w1 := runOf_lt (b := b) m4
      have w2 := runOf_le (b := b) m4
      have e5 : ((iN (keep l.length js)).idxOf (i : Int) : Int) = ((keep l.length js).idxOf i : Nat) := by rw [idxOf_iN]
      refine' sds_asg2 5 6 (ed_callO c3 (ed_call c2 (ad_cons ?a1 (ad_cons ?a2 ad_nil rfl) rfl) allD2 (r_less hv hj1 hj2) rfl rfl rfl rfl) (ad_cons (ED.to (ed_index (l := iN (keep l.length js)) (i := (i : Int)) hu ?a3 ?a4 (mem_iN.mpr m1) ?b1 ?b2 ?b3 ?b4 ?b5) (congrArg (fun z => VD.d (D.int z)) e5) rfl) (ad_cons ?a5 ad_nil rfl) rfl) allD2 (r_call m5 m4) rfl rfl rfl) ?_ nd rfl rfl rfl (.inl rfl) (.inr rfl) (.inl rfl) (.inr rfl) rfl rfl
      case a1 => walk_at "ev"
      case a2 => walk_at "ev"
      case a3 => walk_at "ev"
      case a4 => walk_at "ev"
      case a5 => walk_at "ev"
      case b1 => exact rfl
      case b2 => exact rfl
      case b3 => exact rfl
      case b4 => exact rfl
      case b5 => exact rfl
      refine' sds_ret (ed_slice ?s1 (pd_some ?s2) (pd_some ?s3)) ?s4
      case s1 => walk_at "ev"
      case s2 => walk_at "ev"
      case s3 => walk_at "ev"
      case s4 =>
        refine ⟨?_, rfl⟩
        unfold fells
        have e6 : ((runOf (dropJ (iN js) l) ((keep l.length js).idxOf i) b).2 : Int) + 1 = (((runOf (dropJ (iN js) l) ((keep l.length js).idxOf i) b).2 + 1 : Nat) : Int) := by omega
        rw [e6, cutD_nat (by omega) (by rw [List.length_map, List.length_map]; omega), ← List.map_drop, ← List.map_drop, ← List.map_take, ← List.map_take]
end
/-! ### plain: which stones fall -/
def lfl (l : List Stone) (k : Nat) : Int := (l.getD k (0, 0)).1 - (l.getD k (0, 0)).2
theorem goR_char {l : List Stone} : ∀ (m e : Nat) (reach : Int) (j : Nat), l.length - e ≤ m → e ≤ j → j < l.length → (j ≤ goR (l.drop (e + 1)) reach e ↔ ∀ q, e < q → q ≤ j → (plc l q ≤ reach ∨ ∃ k, e < k ∧ k < q ∧ plc l q ≤ edl l k))
  | 0, e, reach, j, hm, h1, h2 => by omega
  | m + 1, e, reach, j, hm, h1, h2 => by
    by_cases hj : j = e
    · subst hj
      constructor
      · intro _ q a b; omega
      · intro _; exact goR_ge _ _ _
    · by_cases hp : plc l (e + 1) ≤ reach
      · rw [goR_step (by omega) hp, goR_char m (e + 1) _ j (by omega) (by omega) h2]
        constructor
        · intro h q a b
          by_cases hq : q = e + 1
          · subst hq; exact .inl hp
          · rcases h q (by omega) b with h3 | ⟨k, h3, h4, h5⟩
            · by_cases h6 : plc l q ≤ reach
              · exact .inl h6
              · refine .inr ⟨e + 1, by omega, by omega, ?_⟩
                have h7 : plc l q ≤ max reach (edl l (e + 1)) := h3
                omega
            · exact .inr ⟨k, by omega, h4, h5⟩
        · intro h q a b
          rcases h q (by omega) b with h3 | ⟨k, h3, h4, h5⟩
          · left
            have : reach ≤ max reach ((l.getD (e + 1) (0, 0)).1 + (l.getD (e + 1) (0, 0)).2) := Int.le_max_left _ _
            omega
          · by_cases hk : k = e + 1
            · subst hk
              left
              have : edl l (e + 1) ≤ max reach ((l.getD (e + 1) (0, 0)).1 + (l.getD (e + 1) (0, 0)).2) := Int.le_max_right _ _
              omega
            · exact .inr ⟨k, by omega, h4, h5⟩
      · rw [goR_stop (fun z => hp z.2)]
        constructor
        · intro h; omega
        · intro h
          rcases h (e + 1) (by omega) (by omega) with h3 | ⟨k, h3, h4, _⟩
          · exact absurd h3 hp
          · omega
theorem rightEnd_char {l : List Stone} {i j : Nat} (h1 : i ≤ j) (h2 : j < l.length) : j ≤ rightEnd l i ↔ ∀ q, i < q → q ≤ j → ∃ k, i ≤ k ∧ k < q ∧ plc l q ≤ edl l k := by
  unfold rightEnd
  rw [goR_char (l.length - i) i _ j (Nat.le_refl _) h1 h2]
  constructor
  · intro h q a b
    rcases h q a b with h3 | ⟨k, h3, h4, h5⟩
    · exact ⟨i, Nat.le_refl _, a, h3⟩
    · exact ⟨k, by omega, h4, h5⟩
  · intro h q a b
    obtain ⟨k, h3, h4, h5⟩ := h q a b
    by_cases hk : k = i
    · subst hk; exact .inl h5
    · exact .inr ⟨k, by omega, h4, h5⟩
theorem mirL_get {l : List Stone} {k : Nat} (h : k < l.length) : (mirL l).getD k (0, 0) = mirS (totL l) (l.getD (l.length - 1 - k) (0, 0)) := by
  unfold mirL
  have h1 : l.length - 1 - k < l.length := by omega
  simp [h, h1]
theorem mir_plc {l : List Stone} {k : Nat} (h : k < l.length) : plc (mirL l) k = totL l - plc l (l.length - 1 - k) := by
  unfold plc; rw [mirL_get h]; rfl
theorem mir_edl {l : List Stone} {k : Nat} (h : k < l.length) : edl (mirL l) k = totL l - lfl l (l.length - 1 - k) := by
  unfold edl lfl; rw [mirL_get h]
  unfold mirS
  simp only
  omega
/-- x before y, on the way to the side -/
def bef : Bool → Nat → Nat → Prop
  | true, x, y => x < y
  | false, x, y => y < x
def beq' (b : Bool) (x y : Nat) : Prop := x = y ∨ bef b x y
/-- k reaches q -/
def rch (l : List Stone) : Bool → Nat → Nat → Prop
  | true, k, q => plc l q ≤ edl l k
  | false, k, q => lfl l k ≤ plc l q
theorem run_char {l : List Stone} {i j : Nat} {b : Bool} (hi : i < l.length) (hj : j < l.length) : j ∈ rng (runOf l i b) ↔ beq' b i j ∧ ∀ q, bef b i q → beq' b q j → ∃ k, beq' b i k ∧ bef b k q ∧ rch l b k q := by
  rw [rng_mem]
  cases b with
  | true =>
    show (i ≤ j ∧ j ≤ rightEnd l i) ↔ (i = j ∨ i < j) ∧ ∀ q, i < q → (q = j ∨ q < j) → ∃ k, (i = k ∨ i < k) ∧ k < q ∧ plc l q ≤ edl l k
    constructor
    · rintro ⟨h1, h2⟩
      refine ⟨by omega, fun q a c => ?_⟩
      obtain ⟨k, h3, h4, h5⟩ := (rightEnd_char h1 hj).mp h2 q a (by omega)
      exact ⟨k, by omega, h4, h5⟩
    · rintro ⟨h1, h2⟩
      have h1' : i ≤ j := by omega
      refine ⟨h1', (rightEnd_char h1' hj).mpr fun q a c => ?_⟩
      obtain ⟨k, h3, h4, h5⟩ := h2 q a (by omega)
      exact ⟨k, by omega, h4, h5⟩
  | false =>
    show (l.length - 1 - rightEnd (mirL l) (l.length - 1 - i) ≤ j ∧ j ≤ i) ↔ (i = j ∨ j < i) ∧ ∀ q, q < i → (q = j ∨ j < q) → ∃ k, (i = k ∨ k < i) ∧ q < k ∧ lfl l k ≤ plc l q
    have hn := mirL_length l
    have hlt := rightEnd_lt (l := mirL l) (i := l.length - 1 - i) (by omega)
    constructor
    · rintro ⟨h1, h2⟩
      refine ⟨by omega, fun q a c => ?_⟩
      obtain ⟨k, h3, h4, h5⟩ := (rightEnd_char (l := mirL l) (i := l.length - 1 - i) (j := l.length - 1 - j) (by omega) (by omega)).mp (by omega) (l.length - 1 - q) (by omega) (by omega)
      rw [mir_plc (by omega), mir_edl (by omega), show l.length - 1 - (l.length - 1 - q) = q by omega] at h5
      exact ⟨l.length - 1 - k, by omega, by omega, by omega⟩
    · rintro ⟨h1, h2⟩
      have h1' : j ≤ i := by omega
      have h3 := (rightEnd_char (l := mirL l) (i := l.length - 1 - i) (j := l.length - 1 - j) (by omega) (by omega)).mpr fun q a c => by
        obtain ⟨k, h3, h4, h5⟩ := h2 (l.length - 1 - q) (by omega) (by omega)
        refine ⟨l.length - 1 - k, by omega, by omega, ?_⟩
        rw [mir_plc (by omega), mir_edl (by omega), show l.length - 1 - (l.length - 1 - k) = k by omega]
        omega
      exact ⟨by omega, h1'⟩

/-! ### which stones fall when some are taken away -/
theorem sorted_get {K : List Nat} (hK : K.Pairwise (· < ·)) {p q : Nat} (hp : p < K.length) (hq : q < K.length) : K[p] < K[q] ↔ p < q := by
  rw [List.pairwise_iff_getElem] at hK
  constructor
  · intro h
    rcases Nat.lt_trichotomy p q with h1 | h1 | h1
    · exact h1
    · subst h1; omega
    · have := hK q p hq hp h1; omega
  · intro h; exact hK p q hp hq h
theorem bef_get {K : List Nat} (hK : K.Pairwise (· < ·)) {b : Bool} {p q : Nat} (hp : p < K.length) (hq : q < K.length) : bef b K[p] K[q] ↔ bef b p q := by
  cases b with
  | true => exact sorted_get hK hp hq
  | false => exact sorted_get hK hq hp
theorem get_inj {K : List Nat} (hK : K.Pairwise (· < ·)) {p q : Nat} (hp : p < K.length) (hq : q < K.length) : K[p] = K[q] ↔ p = q := by
  have h1 := sorted_get hK hp hq
  have h2 := sorted_get hK hq hp
  omega
theorem beq_get {K : List Nat} (hK : K.Pairwise (· < ·)) {b : Bool} {p q : Nat} (hp : p < K.length) (hq : q < K.length) : beq' b K[p] K[q] ↔ beq' b p q := by
  unfold beq'
  rw [bef_get hK hp hq, get_inj hK hp hq]
theorem fells_char {l : List Stone} {js : List Nat} {i j : Nat} {b : Bool} (hi : i < l.length) (hij : i ∉ js) : j ∈ fells l js i b ↔ j < l.length ∧ j ∉ js ∧ beq' b i j ∧ ∀ q, q < l.length → q ∉ js → bef b i q → beq' b q j → ∃ k, k < l.length ∧ k ∉ js ∧ beq' b i k ∧ bef b k q ∧ rch l b k q := by
  have hK := keep_sorted l.length js
  have hmem : ∀ k, k ∈ keep l.length js ↔ k < l.length ∧ k ∉ js := fun k => keep_mem
  have hm : dropJ (iN js) l = (keep l.length js).map (fun k => l.getD k (0, 0)) := dropJ_keep l js
  unfold fells
  generalize keep l.length js = K at *
  have hmi : i ∈ K := (hmem i).mpr ⟨hi, hij⟩
  obtain ⟨pi, hpi, hpe⟩ := List.getElem_of_mem hmi
  have hidx : K.idxOf i = pi := by
    have h1 : K.idxOf i < K.length := List.idxOf_lt_length_iff.mpr hmi
    have h2 : K[K.idxOf i] = i := List.getElem_idxOf h1
    exact (get_inj hK h1 hpi).mp (by rw [h2, hpe])
  rw [hidx]
  have hml : (dropJ (iN js) l).length = K.length := by rw [hm, List.length_map]
  have hget : ∀ p, (hp : p < K.length) → (dropJ (iN js) l).getD p (0, 0) = l.getD K[p] (0, 0) := by
    intro p hp
    rw [hm]; simp [hp]
  have hr : ∀ p q, (hp : p < K.length) → (hq : q < K.length) → (rch (dropJ (iN js) l) b p q ↔ rch l b K[p] K[q]) := by
    intro p q hp hq
    cases b with
    | true => show plc _ q ≤ edl _ p ↔ plc _ _ ≤ edl _ _; unfold plc edl; rw [hget q hq, hget p hp]
    | false => show lfl _ p ≤ plc _ q ↔ lfl _ _ ≤ plc _ _; unfold plc lfl; rw [hget q hq, hget p hp]
  have hlt := runOf_lt (l := dropJ (iN js) l) (b := b) (i := pi) (by omega)
  have hle := runOf_le (l := dropJ (iN js) l) (b := b) (i := pi) (by omega)
  have hin : j ∈ (K.drop (runOf (dropJ (iN js) l) pi b).1).take ((runOf (dropJ (iN js) l) pi b).2 + 1 - (runOf (dropJ (iN js) l) pi b).1) ↔ ∃ p, ∃ hp : p < K.length, K[p] = j ∧ p ∈ rng (runOf (dropJ (iN js) l) pi b) := by
    rw [List.mem_iff_getElem]
    constructor
    · rintro ⟨p, hp, e⟩
      rw [List.length_take, List.length_drop] at hp
      refine ⟨(runOf (dropJ (iN js) l) pi b).1 + p, by omega, ?_, rng_mem.mpr (by omega)⟩
      rw [List.getElem_take, List.getElem_drop] at e
      exact e
    · rintro ⟨p, hp, e, hr⟩
      have hr := rng_mem.mp hr
      refine ⟨p - (runOf (dropJ (iN js) l) pi b).1, by rw [List.length_take, List.length_drop]; omega, ?_⟩
      rw [List.getElem_take, List.getElem_drop]
      have e2 : (runOf (dropJ (iN js) l) pi b).1 + (p - (runOf (dropJ (iN js) l) pi b).1) = p := by omega
      simp only [e2]
      exact e
  rw [hin]
  constructor
  · rintro ⟨p, hp, rfl, hr1⟩
    obtain ⟨h1, h2⟩ := (hmem K[p]).mp (List.getElem_mem hp)
    obtain ⟨h3, h4⟩ := (run_char (l := dropJ (iN js) l) (b := b) (i := pi) (j := p) (by omega) (by omega)).mp hr1
    refine ⟨h1, h2, by rw [← hpe, beq_get hK hpi hp]; exact h3, fun q hq1 hq2 a c => ?_⟩
    obtain ⟨pq, hpq, rfl⟩ := List.getElem_of_mem ((hmem q).mpr ⟨hq1, hq2⟩)
    rw [← hpe, bef_get hK hpi hpq] at a
    rw [beq_get hK hpq hp] at c
    obtain ⟨k, h5, h6, h7⟩ := h4 pq a c
    have hk : k < K.length := by
      cases b with
      | true => exact Nat.lt_trans h6 hpq
      | false =>
        rcases h5 with h5 | h5
        · omega
        · exact Nat.lt_trans h5 hpi
    obtain ⟨h8, h9⟩ := (hmem K[k]).mp (List.getElem_mem hk)
    exact ⟨K[k], h8, h9, by rw [← hpe, beq_get hK hpi hk]; exact h5, (bef_get hK hk hpq).mpr h6, (hr k pq hk hpq).mp h7⟩
  · rintro ⟨h1, h2, h3, h4⟩
    obtain ⟨p, hp, rfl⟩ := List.getElem_of_mem ((hmem j).mpr ⟨h1, h2⟩)
    refine ⟨p, hp, rfl, (run_char (by omega) (by omega)).mpr ⟨?_, fun q a c => ?_⟩⟩
    · rw [← hpe, beq_get hK hpi hp] at h3; exact h3
    · have hq : q < K.length := by
        cases b with
        | true =>
          rcases c with c | c
          · omega
          · exact Nat.lt_trans c hp
        | false => exact Nat.lt_trans a hpi
      obtain ⟨h5, h6⟩ := (hmem K[q]).mp (List.getElem_mem hq)
      obtain ⟨k, k1, k2, k3, k4, k5⟩ := h4 K[q] h5 h6 (by rw [← hpe, bef_get hK hpi hq]; exact a) ((beq_get hK hq hp).mpr c)
      obtain ⟨pk, hpk, rfl⟩ := List.getElem_of_mem ((hmem k).mpr ⟨k1, k2⟩)
      refine ⟨pk, ?_, (bef_get hK hpk hq).mp k4, (hr pk q hpk hq).mpr k5⟩
      rw [← hpe, beq_get hK hpi hpk] at k3; exact k3
/-! ### plain: the fewest -/
def smB (l : List Stone) (i f : Nat) : Bool → List Nat
  | true => sm l i f
  | false => flipS l.length (sm (mirL l) (l.length - 1 - i) (l.length - 1 - f))
theorem smB_mem {l : List Stone} {i f k : Nat} {b : Bool} (hi : i < l.length) (hf : f < l.length) : k ∈ smB l i f b ↔ k < l.length ∧ beq' b i k ∧ bef b k f ∧ rch l b k f := by
  cases b with
  | true =>
    show k ∈ sm l i f ↔ k < l.length ∧ (i = k ∨ i < k) ∧ k < f ∧ plc l f ≤ edl l k
    rw [sm_mem]; omega
  | false =>
    show k ∈ flipS l.length _ ↔ k < l.length ∧ (i = k ∨ k < i) ∧ f < k ∧ lfl l k ≤ plc l f
    unfold flipS
    rw [List.mem_map]
    constructor
    · rintro ⟨m, hm, rfl⟩
      rw [List.mem_reverse, sm_mem] at hm
      obtain ⟨h1, h2, h3⟩ := hm
      rw [mir_plc (by omega), mir_edl (by omega), show l.length - 1 - (l.length - 1 - f) = f by omega] at h3
      omega
    · rintro ⟨h0, h1, h2, h3⟩
      refine ⟨l.length - 1 - k, ?_, by omega⟩
      rw [List.mem_reverse, sm_mem]
      refine ⟨by omega, by omega, ?_⟩
      rw [mir_plc (by omega), mir_edl (by omega), show l.length - 1 - (l.length - 1 - f) = f by omega, show l.length - 1 - (l.length - 1 - k) = k by omega]
      omega
theorem flip_sorted {n : Nat} {S : List Nat} (h : S.Pairwise (· < ·)) (hn : ∀ k ∈ S, k < n) : (flipS n S).Pairwise (· < ·) := by
  unfold flipS
  rw [List.pairwise_map, List.pairwise_reverse]
  exact h.imp_of_mem fun ha hb hab => by have := hn _ ha; have := hn _ hb; omega
theorem smB_sorted {l : List Stone} {i f : Nat} {b : Bool} (hi : i < l.length) (hf : f < l.length) : (smB l i f b).Pairwise (· < ·) := by
  cases b with
  | true => exact sm_sorted l i f
  | false => exact flip_sorted (sm_sorted _ _ _) fun k hk => by have := sm_mem.mp hk; omega
theorem bef_irrefl {b : Bool} {x : Nat} : ¬ bef b x x := by cases b <;> exact Nat.lt_irrefl x
theorem bef_trans {b : Bool} {x y z : Nat} (h : bef b x y) (h' : bef b y z) : bef b x z := by
  cases b
  · exact Nat.lt_trans h' h
  · exact Nat.lt_trans h h'
theorem bef_tri (b : Bool) (x y : Nat) : bef b x y ∨ x = y ∨ bef b y x := by
  cases b
  · show y < x ∨ _ ∨ x < y; omega
  · show x < y ∨ _ ∨ y < x; omega
theorem beq_bef {b : Bool} {x y z : Nat} (h : beq' b x y) (h' : bef b y z) : bef b x z := by
  rcases h with h | h
  · subst h; exact h'
  · exact bef_trans h h'
theorem bef_beq {b : Bool} {x y z : Nat} (h : bef b x y) (h' : beq' b y z) : bef b x z := by
  rcases h' with h' | h'
  · subst h'; exact h
  · exact bef_trans h h'
theorem beq_trans {b : Bool} {x y z : Nat} (h : beq' b x y) (h' : beq' b y z) : beq' b x z := by
  rcases h with h | h
  · subst h; exact h'
  · exact .inr (bef_beq h h')
theorem bef_lt {b : Bool} {n x y z : Nat} (hx : x < n) (hz : z < n) (h : bef b x y) (h' : beq' b y z) : y < n := by
  cases b with
  | true =>
    rcases h' with h' | h'
    · omega
    · exact Nat.lt_trans h' hz
  | false => exact Nat.lt_trans h hx
theorem few_none {l : List Stone} {i g : Nat} {b : Bool} (hi : i < l.length) (hg : g < l.length) (hne : i ≠ g) (h : fewest l i b g = none) : g ∈ rng (runOf l i b) ∧ ∀ f, bef b i f → beq' b f g → i ∈ smB l i f b := by
  unfold fewest at h
  rw [if_neg hne] at h
  by_cases hr : (runOf l i b).1 ≤ g ∧ g ≤ (runOf l i b).2
  · rw [if_neg (not_not_intro hr)] at h
    refine ⟨rng_mem.mpr hr, fun f h1 h2 => ?_⟩
    have hf := bef_lt hi hg h1 h2
    cases b with
    | true =>
      have h : takenR l i g = none := h
      have hG := takenR_good l i g
      rw [h] at hG
      have h1 : i < f := h1
      have h2 : f = g ∨ f < g := h2
      exact hG f (List.mem_range'_1.mpr (by omega))
    | false =>
      have h : (takenR (mirL l) (l.length - 1 - i) (l.length - 1 - g)).map (flipS l.length) = none := h
      have hG := takenR_good (mirL l) (l.length - 1 - i) (l.length - 1 - g)
      rw [Option.map_eq_none_iff.mp h] at hG
      have h1 : f < i := h1
      have h2 : f = g ∨ g < f := h2
      have h3 := hG (l.length - 1 - f) (List.mem_range'_1.mpr (by omega))
      show i ∈ flipS l.length _
      unfold flipS
      exact List.mem_map.mpr ⟨l.length - 1 - i, List.mem_reverse.mpr h3, by omega⟩
  · rw [if_pos hr] at h; cases h
theorem flip_len (n : Nat) (S : List Nat) : (flipS n S).length = S.length := by unfold flipS; simp
theorem few_some {l : List Stone} {i g : Nat} {b : Bool} {S : List Nat} (hi : i < l.length) (hg : g < l.length) (h : fewest l i b g = some S) : i ≠ g ∧ ((S = [] ∧ g ∉ rng (runOf l i b)) ∨ (g ∈ rng (runOf l i b) ∧ ∃ f, bef b i f ∧ beq' b f g ∧ S = smB l i f b ∧ i ∉ S ∧ ∀ f', bef b i f' → beq' b f' g → i ∉ smB l i f' b → S.length ≤ (smB l i f' b).length)) := by
  unfold fewest at h
  by_cases hne : i = g
  · rw [if_pos hne] at h; cases h
  refine ⟨hne, ?_⟩
  rw [if_neg hne] at h
  by_cases hr : (runOf l i b).1 ≤ g ∧ g ≤ (runOf l i b).2
  · rw [if_neg (not_not_intro hr)] at h
    refine .inr ⟨rng_mem.mpr hr, ?_⟩
    cases b with
    | true =>
      have h : takenR l i g = some S := h
      have hG := takenR_good l i g
      rw [h] at hG
      obtain ⟨f, hf, h1, h2, h3⟩ := hG
      have hf := List.mem_range'_1.mp hf
      have hr2 : i ≤ g := hr.1
      refine ⟨f, show i < f by omega, show f = g ∨ f < g by omega, h1, h2, fun f' a c d => ?_⟩
      have a : i < f' := a
      have c : f' = g ∨ f' < g := c
      exact h3 f' (List.mem_range'_1.mpr (by omega)) d
    | false =>
      have h : (takenR (mirL l) (l.length - 1 - i) (l.length - 1 - g)).map (flipS l.length) = some S := h
      obtain ⟨S0, e1, rfl⟩ := Option.map_eq_some_iff.mp h
      have hG := takenR_good (mirL l) (l.length - 1 - i) (l.length - 1 - g)
      rw [e1] at hG
      obtain ⟨f, hf, h1, h2, h3⟩ := hG
      have hf := List.mem_range'_1.mp hf
      have hr2 : g ≤ i := hr.2
      have key : ∀ (m : Nat), m ≤ l.length - 1 → (i ∈ flipS l.length (sm (mirL l) (l.length - 1 - i) m) ↔ l.length - 1 - i ∈ sm (mirL l) (l.length - 1 - i) m) := by
        intro m hm
        unfold flipS
        rw [List.mem_map]
        constructor
        · rintro ⟨k, hk, e⟩
          have hk := List.mem_reverse.mp hk
          have := sm_mem.mp hk
          have e2 : k = l.length - 1 - i := by omega
          rw [← e2]; rw [← e2] at hk; exact hk
        · intro hk; exact ⟨_, List.mem_reverse.mpr hk, by omega⟩
      refine ⟨l.length - 1 - f, show l.length - 1 - f < i by omega, show l.length - 1 - f = g ∨ g < l.length - 1 - f by omega, ?_, ?_, fun f' a c d => ?_⟩
      · show _ = flipS l.length (sm (mirL l) (l.length - 1 - i) (l.length - 1 - (l.length - 1 - f)))
        rw [show l.length - 1 - (l.length - 1 - f) = f by omega, h1]
      · rw [h1, key f (by omega), ← h1]; exact h2
      · have a : f' < i := a
        have c : f' = g ∨ g < f' := c
        have d : i ∉ flipS l.length (sm (mirL l) (l.length - 1 - i) (l.length - 1 - f')) := d
        rw [key _ (by omega)] at d
        show _ ≤ (flipS l.length (sm (mirL l) (l.length - 1 - i) (l.length - 1 - f'))).length
        rw [flip_len, flip_len]
        exact h3 _ (List.mem_range'_1.mpr (by omega)) d
  · rw [if_pos hr] at h
    cases h
    exact .inl ⟨rfl, fun z => hr (rng_mem.mp z)⟩
/-! ### plain: what the law asks -/
theorem range_cut {n a c : Nat} (h : a + c ≤ n) : ((List.range n).drop a).take c = List.range' a c := by
  apply List.ext_getElem
  · simp; omega
  · intro k h1 h2
    simp
theorem fells_nil {l : List Stone} {i : Nat} {b : Bool} (hi : i < l.length) : fells l [] i b = rng (runOf l i b) := by
  have e1 : keep l.length [] = List.range l.length := by unfold keep; simp
  have e2 : (List.range l.length).idxOf i = i := by
    have h1 : (List.range l.length).idxOf i < (List.range l.length).length := List.idxOf_lt_length_iff.mpr (List.mem_range.mpr hi)
    have h2 := List.getElem_idxOf h1
    rw [List.getElem_range] at h2
    exact h2
  have h1 := runOf_lt (b := b) hi
  have h2 := runOf_le (b := b) hi
  unfold fells
  have e3 : dropJ (iN []) l = l := dropJ_nil l
  rw [e1, e2, e3]
  have hc : (runOf l i b).1 + ((runOf l i b).2 + 1 - (runOf l i b).1) ≤ l.length := by omega
  exact range_cut hc
theorem run_mid {l : List Stone} {i g q : Nat} {b : Bool} (hi : i < l.length) (hg : g < l.length) (h : g ∈ rng (runOf l i b)) (h1 : beq' b i q) (h2 : beq' b q g) (hq : q < l.length) : q ∈ rng (runOf l i b) := by
  rw [run_char hi hq]
  rw [run_char hi hg] at h
  exact ⟨h1, fun q' a c => h.2 q' a (beq_trans c h2)⟩
theorem self_in {l : List Stone} {i : Nat} {b : Bool} {js : List Nat} (hi : i < l.length) (h : i ∉ js) : i ∈ fells l js i b := by
  rw [fells_char hi h]
  refine ⟨hi, h, .inl rfl, fun q _ _ a c => absurd (bef_beq a c) bef_irrefl⟩
def betw (l : List Stone) (i g : Nat) (b : Bool) : List Nat := (rng (runOf l i b)).filter fun k => !decide (k = i) && !decide (k = g)
theorem rng_sorted (p : Nat × Nat) : (rng p).Pairwise (· < ·) := by
  unfold rng
  exact List.pairwise_lt_range' (s := p.1) (n := p.2 + 1 - p.1) (step := 1) (by decide)
theorem betw_ok {l : List Stone} {i g : Nat} {b : Bool} (hi : i < l.length) : (betw l i g b).Pairwise (· < ·) ∧ (∀ j ∈ betw l i g b, j < l.length) ∧ i ∉ betw l i g b := by
  refine ⟨(rng_sorted _).sublist List.filter_sublist, fun j hj => ?_, fun z => ?_⟩
  · have h1 := rng_mem.mp (List.mem_filter.mp hj).1
    have h2 := runOf_lt (b := b) hi
    omega
  · have := (List.mem_filter.mp z).2
    simp at this
theorem least_none {l : List Stone} {i g : Nat} {b : Bool} (hi : i < l.length) (hg : g < l.length) (h : fewest l i b g = none) : g ∈ fells l (betw l i g b) i b := by
  have ho := betw_ok (g := g) (b := b) hi
  by_cases hne : i = g
  · subst hne; exact self_in hi ho.2.2
  obtain ⟨h1, h2⟩ := few_none hi hg hne h
  have h3 := (run_char hi hg).mp h1
  rw [fells_char hi ho.2.2]
  refine ⟨hg, fun z => ?_, h3.1, fun q hq1 hq2 a c => ?_⟩
  · have := (List.mem_filter.mp z).2
    simp at this
  · rcases c with c | c
    · subst c
      have h4 := (smB_mem hi hg).mp (h2 q a (.inl rfl))
      exact ⟨i, hi, ho.2.2, .inl rfl, a, h4.2.2.2⟩
    · exfalso
      apply hq2
      refine List.mem_filter.mpr ⟨run_mid hi hg h1 (.inr a) (.inr c) hq1, ?_⟩
      have n1 : q ≠ i := fun z => by subst z; exact bef_irrefl a
      have n2 : q ≠ g := fun z => by subst z; exact bef_irrefl c
      simp [n1, n2]
theorem len_sub : ∀ {S R : List Nat}, S.Pairwise (· < ·) → (∀ x ∈ S, x ∈ R) → S.length ≤ R.length
  | [], _, _, _ => Nat.zero_le _
  | x :: S, R, hS, h => by
    have hx := h x (by simp)
    rw [List.pairwise_cons] at hS
    have := len_sub (S := S) (R := R.erase x) hS.2 (fun y hy => by
      have h1 := hS.1 y hy
      exact (List.mem_erase_of_ne (by omega)).mpr (h y (by simp [hy])))
    rw [List.length_erase_of_mem hx] at this
    have : 0 < R.length := List.length_pos_of_mem hx
    simp; omega
def drp (S : List Nat) (x : Nat) : List Nat := S.filter fun k => !decide (k = x)
structure Least (l : List Stone) (i g : Nat) (b : Bool) (S : List Nat) : Prop where
  e : S = [] ↔ g ∉ fells l [] i b
  iS : i ∉ S
  gS : g ∉ S
  s : S.Pairwise (· < ·)
  n : ∀ j ∈ S, j < l.length
  no : g ∉ fells l S i b
  yes : ∀ x ∈ S, g ∈ fells l (drp S x) i b
  all : ∀ x ∈ S, x ∈ fells l [] i b
theorem least_some {l : List Stone} {i g : Nat} {b : Bool} {S : List Nat} (hi : i < l.length) (hg : g < l.length) (h : fewest l i b g = some S) : Least l i g b S := by
  obtain ⟨hne, h⟩ := few_some hi hg h
  rcases h with ⟨rfl, h1⟩ | ⟨h1, f, h2, h3, h4, h5, h6⟩
  · have h1 : g ∉ fells l [] i b := by rw [fells_nil hi]; exact h1
    exact ⟨by simp [h1], by simp, by simp, .nil, by simp, h1, by simp, by simp⟩
  · have hf := bef_lt hi hg h2 h3
    have hch := (run_char hi hg).mp h1
    have hS : ∀ k, k ∈ S ↔ k < l.length ∧ beq' b i k ∧ bef b k f ∧ rch l b k f := fun k => by rw [h4]; exact smB_mem hi hf
    have hsrt : S.Pairwise (· < ·) := by rw [h4]; exact smB_sorted hi hf
    have hgS : g ∉ S := fun z => bef_irrefl (bef_beq ((hS g).mp z).2.2.1 h3)
    have hin : g ∈ fells l [] i b := by rw [fells_nil hi]; exact h1
    obtain ⟨k0, k1, k2, k3⟩ := hch.2 f h2 h3
    have k4 : k0 < l.length := by
      rcases k1 with k1 | k1
      · omega
      · exact bef_lt hi hf k1 (.inr k2)
    have hk0 : k0 ∈ S := (hS k0).mpr ⟨k4, k1, k2, k3⟩
    refine ⟨⟨fun z => ?_, fun z => absurd hin z⟩, h5, hgS, hsrt, fun j hj => ((hS j).mp hj).1, fun z => ?_, fun x hx => ?_, fun x hx => ?_⟩
    · rw [z] at hk0; cases hk0
    · rw [fells_char hi h5] at z
      have hfS : f ∉ S := fun y => bef_irrefl ((hS f).mp y).2.2.1
      obtain ⟨k, a1, a2, a3, a4, a5⟩ := z.2.2.2 f hf hfS h2 h3
      exact a2 ((hS k).mpr ⟨a1, a3, a4, a5⟩)
    · have hiR : i ∉ drp S x := fun z => h5 (List.mem_filter.mp z).1
      rw [fells_char hi hiR]
      refine ⟨hg, fun z => hgS (List.mem_filter.mp z).1, hch.1, fun q hq1 hq2 a c => ?_⟩
      apply Classical.byContradiction
      intro hno
      have hsub : ∀ k ∈ smB l i q b, k ∈ drp S x := by
        intro k hk
        obtain ⟨b1, b2, b3, b4⟩ := (smB_mem hi hq1).mp hk
        apply Classical.byContradiction
        intro hkR
        exact hno ⟨k, b1, hkR, b2, b3, b4⟩
      have hiq : i ∉ smB l i q b := fun z => hiR (hsub i z)
      have l1 := h6 q a c hiq
      have l2 := len_sub (smB_sorted (b := b) hi hq1) hsub
      have l3 : (drp S x).length < S.length := by
        unfold drp
        exact List.length_filter_lt_length_iff_exists.mpr ⟨x, hx, by simp⟩
      omega
    · rw [fells_nil hi]
      obtain ⟨b1, b2, b3, _⟩ := (hS x).mp hx
      exact run_mid hi hg h1 b2 (.inr (bef_beq b3 h3)) b1
theorem drp_ok {l : List Stone} {i g : Nat} {b : Bool} {S : List Nat} (h : Least l i g b S) (x : Nat) : (drp S x).Pairwise (· < ·) ∧ (∀ j ∈ drp S x, j < l.length) ∧ i ∉ drp S x :=
  ⟨h.s.sublist List.filter_sublist, fun j hj => h.n j (List.mem_filter.mp hj).1, fun z => h.iS (List.mem_filter.mp z).1⟩
theorem keep_one {n g : Nat} (hg : g < n) : keep n [g] = (List.range (n - 1)).map (upO g) := by
  apply List.Perm.eq_of_pairwise (le := (· < ·)) (fun a b _ _ h1 h2 => by omega) (keep_sorted n [g])
  · rw [List.pairwise_map]
    exact List.pairwise_lt_range.imp fun {a b} h => by unfold upO; split <;> split <;> omega
  · rw [List.perm_ext_iff_of_nodup ((keep_sorted n [g]).imp (fun h => by omega))]
    · intro k
      rw [keep_mem, List.mem_map]
      constructor
      · rintro ⟨h1, h2⟩
        have h2 : k ≠ g := by simpa using h2
        by_cases h3 : k < g
        · exact ⟨k, List.mem_range.mpr (by omega), by unfold upO; rw [if_neg (by omega)]⟩
        · exact ⟨k - 1, List.mem_range.mpr (by omega), by unfold upO; rw [if_pos (by omega)]; omega⟩
      · rintro ⟨m, h1, rfl⟩
        have h1 := List.mem_range.mp h1
        unfold upO
        split <;> simp <;> omega
    · refine List.Pairwise.imp (R := (· < ·)) (fun h => by omega) ?_
      rw [List.pairwise_map]
      exact List.pairwise_lt_range.imp fun {a b} h => by unfold upO; split <;> split <;> omega
theorem fells_one {l : List Stone} {i g : Nat} {b : Bool} (hi : i < l.length) (hg : g < l.length) (hne : i ≠ g) : fells l [g] i b = (rng (runOf (dropJ [(g : Int)] l) (dnO g i) b)).map (upO g) := by
  have hk := keep_one hg
  have hd : dnO g i < l.length - 1 := by unfold dnO; split <;> omega
  have hu : upO g (dnO g i) = i := by unfold upO dnO; split <;> split <;> omega
  have e2 : (keep l.length [g]).idxOf i = dnO g i := by
    have hs := keep_sorted l.length [g]
    have hm : i ∈ keep l.length [g] := keep_mem.mpr ⟨hi, by simpa using hne⟩
    have h1 : (keep l.length [g]).idxOf i < (keep l.length [g]).length := List.idxOf_lt_length_iff.mpr hm
    have h2 := List.getElem_idxOf h1
    have h3 : dnO g i < (keep l.length [g]).length := by rw [hk]; simpa using hd
    have h4 : (keep l.length [g])[dnO g i] = i := by
      simp only [hk, List.getElem_map, List.getElem_range]
      exact hu
    exact (get_inj hs h1 h3).mp (by rw [h2, h4])
  have e3 : (dropJ [(g : Int)] l).length = l.length - 1 := dropJ_len hg
  have h1 := runOf_lt (l := dropJ [(g : Int)] l) (b := b) (i := dnO g i) (by omega)
  have h2 := runOf_le (l := dropJ [(g : Int)] l) (b := b) (i := dnO g i) (by omega)
  unfold fells
  rw [e2]
  show ((keep l.length [g]).drop (runOf (dropJ [(g : Int)] l) (dnO g i) b).1).take _ = _
  rw [hk, ← List.map_drop, ← List.map_take]
  congr 1
  have hc : (runOf (dropJ [(g : Int)] l) (dnO g i) b).1 + ((runOf (dropJ [(g : Int)] l) (dnO g i) b).2 + 1 - (runOf (dropJ [(g : Int)] l) (dnO g i) b).1) ≤ l.length - 1 := by omega
  exact range_cut hc
def due (l : List Stone) (i : Nat) (b : Bool) (g : Nat) : List Nat :=
  if g = i then ((fells l [] i b).filter fun k => !decide (k = g)).filter fun k => !decide (k = i)
  else ((fells l [] i b).filter fun k => !decide (k = g)).filter fun k => !decide (k ∈ fells l [g] i b)
theorem spared_due {l : List Stone} {i g : Nat} {b : Bool} (hi : i < l.length) (hg : g < l.length) : spared l i b g = due l i b g := by
  unfold spared due
  by_cases h : i = g
  · subst h
    rw [if_pos rfl, if_pos rfl, fells_nil hi, List.filter_filter]
    congr 1
    funext k
    simp
  · rw [if_neg h, if_neg (fun z => h z.symm), fells_nil hi, fells_one hi hg h, List.filter_filter]
/-! ### is it the least -/
def R_least (C : Addr) : FSpec := fun xs os r os' => ∃ (l : List Stone) (i : Nat) (b : Bool) (g : Nat), xs = [.d (rowD C l), .d (.int i), .d (.str (sideS b)), .d (.int g)] ∧ os = [] ∧ os' = [] ∧ Valid l ∧ i < l.length ∧ g < l.length ∧ r = .bl true
theorem r_least {C : Addr} {l : List Stone} {i : Nat} {b : Bool} {g : Nat} (h : Valid l) (hi : i < l.length) (hg : g < l.length) : R_least C [.d (rowD C l), .d (.int i), .d (.str (sideS b)), .d (.int g)] [] (.bl true) [] := ⟨l, i, b, g, rfl, rfl, rfl, h, hi, hg, rfl⟩
theorem opt_isSome {p : Bool} {d : D} : p = (if p = true then some d else none).isSome := by cases p <;> rfl
theorem sorted_unique {S : List Nat} (h : S.Pairwise (· < ·)) (o : List Int) (h1 : o.Pairwise (· < ·)) (h2 : ∀ k : Int, k ∈ o ↔ k ∈ iN S) : o = iN S := by
  refine List.Perm.eq_of_pairwise (le := (· < ·)) (fun a b _ _ h1 h2 => by omega) h1 (iN_sorted h) ?_
  rw [List.perm_ext_iff_of_nodup (h1.imp (fun h => by omega)) ((iN_sorted h).imp (fun h => by omega))]
  exact h2
section
variable {P : Program} {w : World} {K : PySem.W.Frag} {mg : Str → Option Value} {base : Heap} {A : Around} {k : Nat}
theorem cg_few (T : Tx K mg) (hr : Room k A) (h : 3 ≤ k) : CGs P w K mg base A "fewest_taken" (R_few (He.ga K "Row")) := ⟨_, _, ok_few T, hr.mono h, T.g_fewest_taken, kp_of T.d_fewest_taken⟩
theorem cg_fells (T : Tx K mg) (hr : Room k A) (h : 8 ≤ k) : CGs P w K mg base A "_law_fells" (R_fells (He.ga K "Row")) := ⟨_, _, ok_fells T, hr.mono h, T.g_law_fells, kp_of T.d_law_fells⟩
end
section
variable {P : Program} {w : World} {K : PySem.W.Frag} {mg : Str → Option Value} {base : Heap}
theorem ok_least (T : Tx K mg) : FnR P w K mg base CX0 9 (He.ga K "_law_is_least") (spF K (R_least (He.ga K "Row"))) := by
  obtain ⟨fd, F⟩ := T.d_law_is_least
  have nd := sc_law_is_least.nd
  have hb : Binds K fd ["_law_one", "_law_stone", "_law_side", "_law_goal"] [] := F.bindsN fun _ _ _ _ _ _ us hl => match us, hl with | [_, _, _, _], _ => rfl
  refine fn_D F sc_law_is_least hb ?_ ?_
  · rintro xs os r os' ⟨l, i, b, g, rfl, rfl, rfl, _⟩
    exact ⟨rfl, rfl, by simp⟩
  · rintro cdv A outer s0 H E hr xs os r os' ⟨l, i, b, g, rfl, rfl, rfl, hv, hi, hg, rfl⟩ _
    have f1 := T.f_sorted
    have f2 := T.f_set
    have c1 := cg_few (P := P) (w := w) (base := base) T hr (by decide)
    have c2 := cg_fells (P := P) (w := w) (base := base) T hr (by decide)
    have hl := hv.1
    have hu := room_u hr
    have hu64 : _ + 64 < cLine := Nat.lt_of_succ_lt hu
    refine' sds_asg2 4 5 (ed_tup (ad_cons (ed_call c1 (ad_cons ?a1 (ad_cons ?a2 (ad_cons ?a3 (ad_cons ?a4 ad_nil rfl) rfl) rfl) rfl) allD4 (r_few hl hi hg) rfl rfl rfl rfl) (ad_cons (ed_call c2 (ad_cons ?a5 (ad_cons ?a6 (ad_cons ?a7 (ad_cons ?a8 ad_nil rfl) rfl) rfl) rfl) allD4 (r_fells (js := []) hv .nil (by simp) hi (by simp)) rfl rfl rfl rfl) ad_nil rfl) rfl) allD2 ?a9) ?_ nd rfl rfl rfl (.inl rfl) (.inr rfl) (.inr rfl) (.inl rfl) rfl rfl
    case a1 => walk_at "ev"
    case a2 => walk_at "ev"
    case a3 => walk_at "ev"
    case a4 => walk_at "ev"
    case a5 => walk_at "ev"
    case a6 => exact ed_lst ad_nil .nil (by rw [sizeLine_eq]; exact Nat.zero_le _)
    case a7 => walk_at "ev"
    case a8 => walk_at "ev"
    case a9 => rw [sizeLine_eq]; exact Nat.le_of_ble_eq_true rfl
    have hF := fells_nil (b := b) hi
    cases hfew : fewest l i b g with
    | none =>
      have hgood := least_none hi hg hfew
      have hbt := betw_ok (g := g) (b := b) hi
      refine' sds_if (p := true) (TD.to (td_isN ?b1) ?b2) ?b3 (fun z => nomatch z)
      case b1 => walk_at "ev"
      case b2 => exact rfl
      case b3 =>
        intro _
        refine' sds_lcP 6 (xs := fells l [] i b) (f := fun k => D.int (k : Nat)) (own := [("_law_number", 7)]) (gv := [7]) (ItD.to (it_list ?i1) ?i2) (fun k => if (!decide (k = i) && !decide (k = g)) = true then some (D.int (k : Nat)) else none) ?l1 ?l2 ?l3 ?l4 (blkOk_by rfl) nd rfl rfl rfl rfl (fun _ => rfl)
        case i1 => walk_at "ev"
        case i2 => exact iN_map _
        case l3 =>
          rw [hF]; unfold rng
          have := runOf_lt (b := b) hi
          rw [List.length_range', sizeLine_eq]; omega
        case l4 => decide
        case l1 =>
          intro k hk
          refine' lcP1 7 nd rfl rfl ?t1 ?t2
          case t1 =>
            intro _ _ _ _ _
            refine' tds_one (TD.to (TW.td (tw_and (td_neI ?k1 ?k2) fun _ => tw_and1 (td_neI ?k3 ?k4))) ?k5)
            case k1 => walk_at "ev"
            case k2 => walk_at "ev"
            case k3 => walk_at "ev"
            case k4 => walk_at "ev"
            case k5 =>
              rw [decide_eq_decide.mpr (show ((k : Int) = (i : Int)) ↔ k = i by omega), decide_eq_decide.mpr (show ((k : Int) = (g : Int)) ↔ k = g by omega)]
              exact opt_isSome
          case t2 =>
            intro e he
            by_cases hx : (!decide (k = i) && !decide (k = g)) = true
            · rw [if_pos hx] at he
              cases he
              intro _ _ _ _ _
              walk_at "ev"
            · rw [if_neg hx] at he; cases he
        case l2 =>
          rw [fm_nat, hF]
          have e4 : (rng (runOf l i b)).filter (fun k => !decide (k = i) && !decide (k = g)) = betw l i g b := rfl
          rw [e4]
          refine' sds_ret (ed_in (l := iN (fells l (betw l i g b) i b)) ?m1 (ed_call c2 (ad_cons ?m2 (ad_cons ?m3 (ad_cons ?m4 (ad_cons ?m5 ad_nil rfl) rfl) rfl) rfl) allD4 (r_fells hv hbt.1 hbt.2.1 hi hbt.2.2) rfl rfl rfl rfl) rfl ?m7) ?m6
          case m1 => walk_at "ev"
          case m2 => walk_at "ev"
          case m3 => walk_at "ev"
          case m4 => walk_at "ev"
          case m5 => walk_at "ev"
          case m7 => exact rfl
          case m6 =>
            refine ⟨?_, rfl⟩
            rw [decide_eq_true (mem_iN.mpr hgood)]
    | some S =>
      have L := least_some hi hg hfew
      have hSl : S.length ≤ 40 := by
        have := len_sub (R := List.range l.length) L.s (fun x hx => List.mem_range.mpr (L.n x hx))
        rw [List.length_range] at this; omega
      refine' sds_if (p := false) (TD.to (td_isN ?b1) ?b2) (fun z => nomatch z) ?b3
      case b1 => walk_at "ev"
      case b2 => exact rfl
      case b3 =>
        intro _
        refine sds_nil ?_
        refine' sds_if (p := false) (TD.to (TW.td (tw_or (td_neS (ed_eqLI (l := iN S) (l' := []) hu64 ?n1 ?n2 ?n3) (ed_nin (l := iN (fells l [] i b)) ?n4 ?n5 ?n6 ?n7) ?n8) fun _ => tw_or (td_in (l := iN S) ?n9 ?n10 ?n11 ?n12) fun _ => tw_or (td_in (l := iN S) ?n13 ?n14 ?n15 ?n16) fun _ => tw_or1 (td_neLI (l := iN S) (l' := iN S) hu64 ?n17 (ed_sortSet (l := iN S) ?n18 ?n19 (sorted_unique L.s) ?n20 f1 ?n21 f2 ?n22 ?n23) ?n24))) ?n25) (fun z => nomatch z) ?b4
        case n1 => walk_at "ev"
        case n2 => exact ed_lst ad_nil .nil (by rw [sizeLine_eq]; exact Nat.zero_le _)
        case n3 => exact rfl
        case n4 => walk_at "ev"
        case n5 => walk_at "ev"
        case n6 => exact rfl
        case n7 => exact rfl
        case n8 => exact rfl
        case n9 => walk_at "ev"
        case n10 => walk_at "ev"
        case n11 => exact rfl
        case n12 => exact rfl
        case n13 => walk_at "ev"
        case n14 => walk_at "ev"
        case n15 => exact rfl
        case n16 => exact rfl
        case n17 => walk_at "ev"
        case n18 => walk_at "ev"
        case n19 => rw [List.length_map]; omega
        case n20 => exact rfl
        case n21 => exact rfl
        case n22 => exact rfl
        case n23 => exact rfl
        case n24 => exact rfl
        case n25 =>
          have z0 : (iN S = []) ↔ ¬ ((g : Int) ∈ iN (fells l [] i b)) := by
            rw [mem_iN, ← L.e]
            constructor
            · intro h; exact List.map_eq_nil_iff.mp h
            · intro h; rw [h]; rfl
          have z1 : decide (iN S = []) = !decide ((g : Int) ∈ iN (fells l [] i b)) := by
            by_cases hc : (g : Int) ∈ iN (fells l [] i b)
            · rw [decide_eq_true hc, decide_eq_false (fun h => (z0.mp h) hc)]; rfl
            · rw [decide_eq_false hc, decide_eq_true (z0.mpr hc)]; rfl
          have z2 : decide ((i : Int) ∈ iN S) = false := decide_eq_false (fun z => L.iS (mem_iN.mp z))
          have z3 : decide ((g : Int) ∈ iN S) = false := decide_eq_false (fun z => L.gS (mem_iN.mp z))
          show (!decide (decide (iN S = []) = !decide ((g : Int) ∈ iN (fells l [] i b))) || (decide ((i : Int) ∈ iN S) || (decide ((g : Int) ∈ iN S) || decide (iN S ≠ iN S)))) = false
          rw [decide_eq_true z1, z2, z3]
          simp
        case b4 =>
          intro _
          refine sds_nil ?_
          refine' sds_if (p := false) (TD.to (td_in (l := iN (fells l S i b)) ?m1 (ed_call c2 (ad_cons ?m2 (ad_cons ?m3 (ad_cons ?m4 (ad_cons ?m5 ad_nil rfl) rfl) rfl) rfl) allD4 (r_fells hv L.s L.n hi L.iS) rfl rfl rfl rfl) rfl ?m7) ?m6) (fun z => nomatch z) ?b5
          case m1 => walk_at "ev"
          case m2 => walk_at "ev"
          case m3 => walk_at "ev"
          case m4 => walk_at "ev"
          case m5 => walk_at "ev"
          case m7 => exact rfl
          case m6 => exact decide_eq_false (fun z => L.no (mem_iN.mp z))
          case b5 =>
            intro _
            refine sds_nil ?_
            refine' sds_for (ds := S.map (fun k => D.int (k : Nat))) ?hi (fun j ρ => ∃ (x : Option VD), ρ = ⟨0, [some (.d (rowD (He.ga K "Row") l)), some (.d (.int i)), some (.d (.str (sideS b))), some (.d (.int g)), some (.d (nsD S)), some (.d (nsD (fells l [] i b))), none, x, none], []⟩) ?h0 ?hs ?hd PassesOwn.never rfl (fun _ => rfl)
            case hi =>
              refine' ItD.to (it_list ?e1) ?e2
              case e1 => walk_at "ev"
              case e2 => exact iN_map S
            case h0 => exact ⟨none, rfl⟩
            case hs =>
              rintro j d ρ hd ⟨x, rfl⟩
              rw [List.getElem?_map] at hd
              obtain ⟨y, hy, rfl⟩ : ∃ y, S[j]? = some y ∧ D.int (y : Nat) = d := by
                cases q : S[j]? with
                | none => rw [q] at hd; cases hd
                | some y => rw [q] at hd; exact ⟨y, rfl, by simpa using hd⟩
              have hyS := List.mem_of_getElem? hy
              have hdr := drp_ok L y
              refine' ⟨_, ?g1, ?_⟩
              case g1 => walk_at "nm 7"
              refine' sds_if (p := false) (TD.to (td_nin (l := iN (fells l (drp S y) i b)) ?r1 (ed_call c2 (ad_cons ?r2 (ad_cons (ED.lst (ed_lcP (xs := S) (f := fun k => D.int (k : Nat)) (own := [("_law_other", 8)]) (gv := [8]) (ItD.to (it_list ?i1) ?i2) (fun k => if (!decide (k = y)) = true then some (D.int (k : Nat)) else none) ?l1 ?l3 ?l4 (blkOk_by rfl) nd rfl (fun _ => rfl)) (fm_nat _ _)) (ad_cons ?r4 (ad_cons ?r5 ad_nil rfl) rfl) rfl) rfl) allD4 (r_fells (js := drp S y) hv hdr.1 hdr.2.1 hi hdr.2.2) rfl rfl rfl rfl) rfl ?r7) ?r6) (fun z => nomatch z) ?r8
              case r1 => walk_at "ev"
              case r2 => walk_at "ev"
              case i1 => walk_at "ev"
              case r4 => walk_at "ev"
              case r5 => walk_at "ev"
              case r7 => exact rfl
              case r6 => rw [decide_eq_true (mem_iN.mpr (L.yes y hyS))]; rfl
              case i2 => exact iN_map S
              case l3 => rw [sizeLine_eq]; omega
              case l4 => decide
              case l1 =>
                intro k hk
                refine' lcP1 8 nd rfl rfl ?t1 ?t2
                case t1 =>
                  intro _ _ _ _ _
                  refine' tds_one (TD.to (td_neI ?k1 ?k2) ?k5)
                  case k1 => walk_at "ev"
                  case k2 => walk_at "ev"
                  case k5 =>
                    rw [decide_eq_decide.mpr (show ((k : Int) = (y : Int)) ↔ k = y by omega)]
                    exact opt_isSome
                case t2 =>
                  intro e he
                  by_cases hx : (!decide (k = y)) = true
                  · rw [if_pos hx] at he
                    cases he
                    intro _ _ _ _ _
                    walk_at "ev"
                  · rw [if_neg hx] at he; cases he
              case r8 =>
                intro _
                exact sds_nil (sds_nil ⟨_, rfl⟩)
            case hd =>
              rintro ρ ⟨x, rfl⟩
              refine' sds_ret (ed_eqLI (l := iN (S.filter fun k => !decide (k ∈ fells l [] i b))) (l' := []) hu64 (ED.lst (ed_lcP (xs := S) (f := fun k => D.int (k : Nat)) (own := [("_law_number", 7)]) (gv := [7]) (ItD.to (it_list ?i1) ?i2) (fun k => if (!decide (k ∈ fells l [] i b)) = true then some (D.int (k : Nat)) else none) ?l1 ?l3 ?l4 (blkOk_by rfl) nd rfl (fun _ => rfl)) (fm_nat _ _)) ?v2 ?v3) ?v4
              case i1 => walk_at "ev"
              case i2 => exact iN_map S
              case l3 => rw [sizeLine_eq]; omega
              case l4 => decide
              case l1 =>
                intro k hk
                refine' lcP1 7 nd rfl rfl ?t1 ?t2
                case t1 =>
                  intro _ _ _ _ _
                  refine' tds_one (TD.to (td_nin (l := iN (fells l [] i b)) ?k1 ?k2 ?k3 ?k4) ?k5)
                  case k1 => walk_at "ev"
                  case k2 => walk_at "ev"
                  case k3 => exact rfl
                  case k4 => exact rfl
                  case k5 =>
                    rw [decide_eq_decide.mpr (mem_iN (b := fells l [] i b) (i := k))]
                    exact opt_isSome
                case t2 =>
                  intro e he
                  by_cases hx : (!decide (k ∈ fells l [] i b)) = true
                  · rw [if_pos hx] at he
                    cases he
                    intro _ _ _ _ _
                    walk_at "ev"
                  · rw [if_neg hx] at he; cases he
              case v2 => exact ed_lst ad_nil .nil (by rw [sizeLine_eq]; exact Nat.zero_le _)
              case v3 => exact rfl
              case v4 =>
                refine ⟨?_, rfl⟩
                have e9 : S.filter (fun k => !decide (k ∈ fells l [] i b)) = [] := by
                  rw [List.filter_eq_nil_iff]
                  intro k hk
                  simp [L.all k hk]
                rw [e9]; rfl
end
/-! ### the law -/
section
variable {X : Cx} {ρ ρ1 : DL.Env} {a b : Expr} {pp pos : Pos} {sc : List Int} {s : TkS} {m : Int}
theorem ed_stones (C : CG X "_law_stones" R_stones) (ha : AD X ρ [a, b] [.loc 0, .d (.int m)] ρ1) (ho : ρ1.ow[0]? = some (some (tkO sc s))) (h : 0 ≤ m) (h2 : m ≤ 40) (hg : Gl X "_law_stones")
    (he : starEach [a, b] X.env = (false, eval a X.env) :: starEach [b] X.env) (hpl : (backTo pos (starEach [b] X.env)).any (·.1) = false) :
    ED X ρ (.Call (.Name "_law_stones" pp) [a, b] [] pos) (.d (.lst ((stonesF sc s m).1.map stD))) { ρ1 with ow := ρ1.ow.set 0 (some (tkO sc (stonesF sc s m).2)) } :=
  ed_callL (ns := [0]) (os := [tkO sc s]) (os' := [tkO sc (stonesF sc s m).2]) C ha (.cons (.loc rfl) (.cons (.d _) .nil)) (Lend.one ho trivial) ⟨sc, s, m, rfl, rfl, rfl, h, h2, rfl⟩ rfl hg (by decide) he hpl
end
local macro_rules | `(tactic| walk_at "tk") => `(tactic| ((with_reducible refine' ed_tk ?q1 ?ha ?ho ?h1 ?h2 ?q2 ?q3 ?q4); (case' q1 => assumption); (case' q2 => exact rfl); (case' q3 => exact rfl); (case' q4 => exact rfl); (case' ha => walk_at "args"); (case' ho => exact rfl); (case' h1 => (first | decide | walk_at "om" | skip)); (case' h2 => (first | decide | walk_at "om" | skip))))
local macro_rules | `(tactic| walk_at "call") => `(tactic| first | walk_at "tk" | walk_at "gcall" | walk_at "len" | walk_at "max2" | walk_at "min2" | walk_at "isi" | walk_at "int" | walk_at "tuple" | walk_at "list" | walk_at "call0" | walk_at "make" | walk_at "meth" | walk_at "callO")
local macro_rules | `(tactic| walk_at "len0") => `(tactic| exact cb_lenI (by assumption) r_len (by walk_at "om") (by walk_at "om"))
theorem atI_side {i : Int} (h0 : 0 ≤ i) (h1 : i < 2) : atI [D.str "left", D.str "right"] i = some (.str (sideS (decide (i = 1)))) := by
  have : i = 0 ∨ i = 1 := by omega
  rcases this with rfl | rfl <;> rfl
def R_law : FSpec := fun xs os r os' => ∃ sc : List Int, xs = [.d (.lst (sc.map D.int))] ∧ os = [] ∧ os' = [] ∧ r = .bl true
section
variable {P : Program} {w : World} {K : PySem.W.Frag} {mg : Str → Option Value} {base : Heap} {A : Around} {k : Nat}
theorem cg_stones (T : Tx K mg) (hr : Room k A) (h : 2 ≤ k) : CGs P w K mg base A "_law_stones" R_stones := ⟨_, _, ok_stones T, hr.mono h, T.g_law_stones, kp_of T.d_law_stones⟩
theorem cg_row (T : Tx K mg) (hr : Room k A) (h : 8 ≤ k) : CGs P w K mg base A "_law_row" (R_row (He.ga K "Row")) := ⟨_, _, ok_row T, hr.mono h, T.g_law_row, kp_of T.d_law_row⟩
theorem cg_least (T : Tx K mg) (hr : Room k A) (h : 9 ≤ k) : CGs P w K mg base A "_law_is_least" (R_least (He.ga K "Row")) := ⟨_, _, ok_least T, hr.mono h, T.g_law_is_least, kp_of T.d_law_is_least⟩
theorem cg_spared (T : Tx K mg) (hr : Room k A) (h : 7 ≤ k) : CGs P w K mg base A "spared_without" (R_spared (He.ga K "Row")) := ⟨_, _, ok_spared T, hr.mono h, T.g_spared_without, kp_of T.d_spared_without⟩
end
section
variable {P : Program} {w : World} {K : PySem.W.Frag} {mg : Str → Option Value} {base : Heap}
theorem ok_law (T : Tx K mg) {fd : FuncData} (F : FunD K "law" "law" (defArgs s_law) (defBody s_law) (defScope s_law) [] [] (He.ga K "law") fd) : FnOk P w K mg base CX0 10 (He.ga K "law") fd ["_law_script"] (spF K R_law) := by
  have nd := sc_law.nd
  refine fn_Dok F sc_law ?_ ?_
  · rintro xs os r os' ⟨sc, rfl, rfl, rfl, _⟩
    exact ⟨rfl, rfl, by simp⟩
  · rintro cdv A outer s0 H E hr xs os r os' ⟨sc, rfl, rfl, rfl, rfl⟩ _
    have f1 := T.f_range
    have f2 := T.f_min
    have f3 := T.f_len
    have c1 := cg_tk (P := P) (w := w) (base := base) T hr (by decide)
    have c2 := cg_stones (P := P) (w := w) (base := base) T hr (by decide)
    have c3 := cg_row (P := P) (w := w) (base := base) T hr (by decide)
    have c4 := cg_least (P := P) (w := w) (base := base) T hr (by decide)
    have c5 := cg_spared (P := P) (w := w) (base := base) T hr (by decide)
    have c6 := cg_fells (P := P) (w := w) (base := base) T hr (by decide)
    have c7 := cs_len (P := P) (w := w) (base := base) T hr (by decide)
    have hu := room_u hr
    have hu64 : _ + 64 < cLine := Nat.lt_of_succ_lt hu
    refine' sds_set 1 (ed_lstO (ds := [.lst (sc.map D.int), .int 0, .int 0, .int 0]) (ad_cons ?a1 (ad_cons ed_int (ad_cons ed_int (ad_cons ed_int ad_nil rfl) rfl) rfl) rfl) allD4 ?a2) ?_ nd rfl (.inl rfl) rfl (.inl rfl)
    case a1 => walk_at "ev"
    case a2 => rw [sizeLine_eq]; exact Nat.le_of_ble_eq_true rfl
    refine' sds_for (ds := rngD 0 3) ?hi (fun _ ρ => ∃ (s : TkS) (x2 x3 x4 x5 x6 x7 x8 : Option VD), ρ = ⟨0, [some (.d (.lst (sc.map D.int))), some (.loc 0), x2, x3, x4, x5, x6, x7, x8, none], [some (tkO sc s)]⟩) ?h0 ?hs ?hd PassesOwn.never rfl (fun _ => rfl)
    case hi =>
      refine' ItD.to (it_range1 ?i1 ?i2 ?hm ?i3 ?i4) ?i7
      case i1 => walk_at "ev"
      case hm => exact f1
      case i7 => exact rfl
      case i2 => exact rfl
      case i3 => omega
      case i4 => exact rfl
    case h0 => exact ⟨⟨0, 0, 0⟩, none, none, none, none, none, none, none, rfl⟩
    case hd =>
      rintro ρ ⟨s, x2, x3, x4, x5, x6, x7, x8, rfl⟩
      walk_at "ret"
      exact ⟨rfl, rfl⟩
    case hs =>
      rintro j d ρ hd ⟨s, x2, x3, x4, x5, x6, x7, x8, rfl⟩
      refine' ⟨_, ?g1, ?_⟩
      case g1 => walk_at "nm 2"
      have hv := stonesF_valid (sc := sc) (s := s) (most := 14) (by decide) (by decide)
      refine' sds_set 3 (ed_call c3 (ad_cons (ed_stones (sc := sc) (s := s) (m := 14) c2 (ad_cons ?b1 (ad_cons ed_int ad_nil rfl) rfl) ?b2 (by decide) (by decide) rfl rfl rfl) ad_nil rfl) allD1 (r_row hv) rfl rfl rfl rfl) ?_ nd rfl ?lo1 rfl ?lo2
      case b1 => walk_at "var"
      case b2 => exact rfl
      case lo1 => walk_at "loc"
      case lo2 => walk_at "loc"
      generalize (stonesF sc s 14).1 = l at hv ⊢
      generalize (stonesF sc s 14).2 = s2
      have hl := hv.1
      refine' sds_for (ds := rngD 0 (min 8 (l.length : Int)).toNat) ?hi (fun _ ρ => ∃ (s : TkS) (x4 x5 x6 x7 x8 : Option VD), ρ = ⟨0, [some (.d (.lst (sc.map D.int))), some (.loc 0), some (.d d), some (.d (rowD (He.ga K "Row") l)), x4, x5, x6, x7, x8, none], [some (tkO sc s)]⟩) ?h0 ?hs ?hd PassesOwn.never rfl (fun _ => rfl)
      case hi =>
        refine' ItD.to (it_range1 ?i1 ?i2 ?hm ?i3 ?i4) ?i7
        case i1 => walk_at "ev"
        case hm => exact f1
        case i7 => exact rfl
        case i2 => exact rfl
        case i3 => omega
        case i4 => exact rfl
      case h0 => exact ⟨s2, _, _, _, _, _, rfl⟩
      case hd =>
        rintro ρ ⟨s, x4, x5, x6, x7, x8, rfl⟩
        exact sds_nil ⟨s, _, _, _, _, _, _, _, rfl⟩
      case hs =>
        rintro j2 d2 ρ hd2 ⟨s, x4, x5, x6, x7, x8, rfl⟩
        have hj2 := (rngD_get hd2).1
        have hn : 0 < l.length := by omega
        have hn' : (0 : Int) < (l.length : Int) := by omega
        refine' ⟨_, ?g2, ?_⟩
        case g2 => walk_at "nm 4"
        have p1 := tk_ge sc s hn'
        have p2 := tk_lt sc s hn'
        have p3 := tk_ge sc (tk sc s l.length).2 hn'
        have p4 := tk_lt sc (tk sc s l.length).2 hn'
        have q1 : ((tk sc s l.length).1.toNat : Int) = (tk sc s l.length).1 := by omega
        have q2 : ((tk sc (tk sc s l.length).2 l.length).1.toNat : Int) = (tk sc (tk sc s l.length).2 l.length).1 := by omega
        refine' sds_asg2 5 6 (ed_tup (ad_cons (ED.to ?b1 (congrArg (fun z => VD.d (D.int z)) q1.symm) rfl) (ad_cons (ED.to ?b2 (congrArg (fun z => VD.d (D.int z)) q2.symm) rfl) ad_nil rfl) rfl) allD2 ?b3) ?_ nd rfl rfl rfl ?lo3 ?lo4 ?lo5 ?lo6 rfl rfl
        case b1 => walk_at "tk"
        case b2 => walk_at "tk"
        case b3 => rw [sizeLine_eq]; exact Nat.le_of_ble_eq_true rfl
        case lo3 => walk_at "loc"
        case lo4 => walk_at "loc"
        case lo5 => walk_at "loc"
        case lo6 => walk_at "loc"
        have hi : (tk sc s l.length).1.toNat < l.length := by omega
        have hg : (tk sc (tk sc s l.length).2 l.length).1.toNat < l.length := by omega
        generalize (tk sc s l.length).1.toNat = i at hi ⊢
        generalize (tk sc (tk sc s l.length).2 l.length).1.toNat = g at hg ⊢
        generalize (tk sc (tk sc s l.length).2 l.length).2 = s3
        have e1 := atI_side (tk_ge sc s3 (m := 2) (by decide)) (tk_lt sc s3 (m := 2) (by decide))
        walk_at "set 7"
        generalize decide ((tk sc s3 2).1 = 1) = b
        generalize (tk sc s3 2).2 = s4
        have hF := fells_nil (b := b) hi
        have hfl : (fells l [] i b).length ≤ 40 := by
          rw [hF]; unfold rng
          have := runOf_lt (b := b) hi
          rw [List.length_range']; omega
        refine' sds_if (p := false) (TD.to (td_not (td_val (ed_call c4 (ad_cons ?k1 (ad_cons ?k2 (ad_cons ?k3 (ad_cons ?k4 ad_nil rfl) rfl) rfl) rfl) allD4 (r_least hv hi hg) rfl rfl rfl rfl) (fun _ => rfl))) ?k5) (fun z => nomatch z) ?k6
        case k1 => walk_at "ev"
        case k2 => walk_at "ev"
        case k3 => walk_at "ev"
        case k4 => walk_at "ev"
        case k5 => exact rfl
        case k6 =>
          intro _
          refine sds_nil ?_
          refine' sds_lcP 8 (xs := fells l [] i b) (f := fun k => D.int (k : Nat)) (own := [("_law_number", 9)]) (gv := [9]) (ItD.to (it_list (ed_call c6 (ad_cons ?m1 (ad_cons ?m2 (ad_cons ?m3 (ad_cons ?m4 ad_nil rfl) rfl) rfl) rfl) allD4 (r_fells (js := []) hv .nil (by simp) hi (by simp)) rfl rfl rfl rfl)) ?i2) (fun k => if (!decide (k = g)) = true then some (D.int (k : Nat)) else none) ?l1 ?l2 ?l3 ?l4 (blkOk_by rfl) nd rfl rfl rfl rfl (fun _ => rfl)
          case m1 => walk_at "ev"
          case m2 => exact ed_lst ad_nil .nil (by rw [sizeLine_eq]; exact Nat.zero_le _)
          case m3 => walk_at "ev"
          case m4 => walk_at "ev"
          case i2 => exact iN_map _
          case l3 => rw [sizeLine_eq]; omega
          case l4 => decide
          case l1 =>
            intro k hk
            refine' lcP1 9 nd rfl rfl ?t1 ?t2
            case t1 =>
              intro _ _ _ _ _
              refine' tds_one (TD.to (td_neI ?n1 ?n2) ?n3)
              case n1 => walk_at "ev"
              case n2 => walk_at "ev"
              case n3 =>
                rw [decide_eq_decide.mpr (show ((k : Int) = (g : Int)) ↔ k = g by omega)]
                exact opt_isSome
            case t2 =>
              intro e he
              by_cases hx : (!decide (k = g)) = true
              · rw [if_pos hx] at he
                cases he
                intro _ _ _ _ _
                walk_at "ev"
              · rw [if_neg hx] at he; cases he
          case l2 =>
            rw [fm_nat]
            have hfl2 : ((fells l [] i b).filter (fun k => !decide (k = g))).length ≤ 40 := Nat.le_trans (List.length_filter_le _ _) hfl
            refine' sds_if (p := decide ((g : Int) = (i : Int))) ?o1 ?o2 ?o3
            case o1 => walk_at "te"
            case o2 =>
              intro h
              have h := of_decide_eq_true h
              have h : g = i := by omega
              have hdue : spared l i b g = ((fells l [] i b).filter fun k => !decide (k = g)).filter fun k => !decide (k = i) := by
                rw [spared_due hi hg]; unfold due; rw [if_pos h]
              refine' sds_lcP 8 (xs := (fells l [] i b).filter (fun k => !decide (k = g))) (f := fun k => D.int (k : Nat)) (own := [("_law_number", 9)]) (gv := [9]) (ItD.to (it_list ?i1) ?i2) (fun k => if (!decide (k = i)) = true then some (D.int (k : Nat)) else none) ?l1 ?l2 ?l3 ?l4 (blkOk_by rfl) nd rfl rfl rfl rfl (fun _ => rfl)
              case i1 => walk_at "ev"
              case i2 => exact iN_map _
              case l3 => rw [sizeLine_eq]; omega
              case l4 => decide
              case l1 =>
                intro k hk
                refine' lcP1 9 nd rfl rfl ?t1 ?t2
                case t1 =>
                  intro _ _ _ _ _
                  refine' tds_one (TD.to (td_neI ?n1 ?n2) ?n3)
                  case n1 => walk_at "ev"
                  case n2 => walk_at "ev"
                  case n3 =>
                    rw [decide_eq_decide.mpr (show ((k : Int) = (i : Int)) ↔ k = i by omega)]
                    exact opt_isSome
                case t2 =>
                  intro e he
                  by_cases hx : (!decide (k = i)) = true
                  · rw [if_pos hx] at he
                    cases he
                    intro _ _ _ _ _
                    walk_at "ev"
                  · rw [if_neg hx] at he; cases he
              case l2 =>
                rw [fm_nat, ← hdue]
                refine sds_nil ?_
                refine' sds_if (p := false) (TD.to (td_neLI (l := iN (spared l i b g)) (l' := iN (spared l i b g)) hu64 (ed_call c5 (ad_cons ?k1 (ad_cons ?k2 (ad_cons ?k3 (ad_cons ?k4 ad_nil rfl) rfl) rfl) rfl) allD4 (r_spared hv hi hg) rfl rfl rfl rfl) ?k7 ?k8) ?k5) (fun z => nomatch z) ?k6
                case k1 => walk_at "ev"
                case k2 => walk_at "ev"
                case k3 => walk_at "ev"
                case k4 => walk_at "ev"
                case k7 => walk_at "ev"
                case k8 => exact rfl
                case k5 => exact decide_eq_false (fun h => h rfl)
                case k6 =>
                  intro _
                  exact sds_nil (sds_nil ⟨s4, _, _, _, _, _, rfl⟩)
            case o3 =>
              intro h
              have h := of_decide_eq_false h
              have h : ¬ g = i := by omega
              have hdue : spared l i b g = ((fells l [] i b).filter fun k => !decide (k = g)).filter fun k => !decide (k ∈ fells l [g] i b) := by
                rw [spared_due hi hg]; unfold due; rw [if_neg h]
              refine' sds_lcP 8 (xs := (fells l [] i b).filter (fun k => !decide (k = g))) (f := fun k => D.int (k : Nat)) (own := [("_law_number", 9)]) (gv := [9]) (ItD.to (it_list ?i1) ?i2) (fun k => if (!decide (k ∈ fells l [g] i b)) = true then some (D.int (k : Nat)) else none) ?l1 ?l2 ?l3 ?l4 (blkOk_by rfl) nd rfl rfl rfl rfl (fun _ => rfl)
              case i1 => walk_at "ev"
              case i2 => exact iN_map _
              case l3 => rw [sizeLine_eq]; omega
              case l4 => decide
              case l1 =>
                intro k hk
                refine' lcP1 9 nd rfl rfl ?t1 ?t2
                case t1 =>
                  intro _ _ _ _ _
                  refine' tds_one (TD.to (td_nin (l := iN (fells l [g] i b)) ?n1 (ed_call ?n4 (ad_cons ?n5 (ad_cons (ed_lst (ad_cons ?n6 ad_nil rfl) allD1 ?n7) (ad_cons ?n8 (ad_cons ?n9 ad_nil rfl) rfl) rfl) rfl) allD4 (r_fells (js := [g]) hv (by simp) (by simpa using hg) hi (by simpa using fun z => h z.symm)) ?n11 ?n12 ?n13 ?n14) rfl ?n10) ?n3)
                  case n4 => exact c6
                  case n1 => walk_at "ev"
                  case n5 => walk_at "ev"
                  case n6 => walk_at "ev"
                  case n7 => rw [sizeLine_eq]; exact Nat.le_of_ble_eq_true rfl
                  case n8 => walk_at "ev"
                  case n9 => walk_at "ev"
                  case n11 => exact rfl
                  case n12 => exact rfl
                  case n13 => exact rfl
                  case n14 => exact rfl
                  case n10 => exact rfl
                  case n3 =>
                    rw [decide_eq_decide.mpr (mem_iN (b := fells l [g] i b) (i := k))]
                    exact opt_isSome
                case t2 =>
                  intro e he
                  by_cases hx : (!decide (k ∈ fells l [g] i b)) = true
                  · rw [if_pos hx] at he
                    cases he
                    intro _ _ _ _ _
                    walk_at "ev"
                  · rw [if_neg hx] at he; cases he
              case l2 =>
                rw [fm_nat, ← hdue]
                refine sds_nil ?_
                refine' sds_if (p := false) (TD.to (td_neLI (l := iN (spared l i b g)) (l' := iN (spared l i b g)) hu64 (ed_call c5 (ad_cons ?k1 (ad_cons ?k2 (ad_cons ?k3 (ad_cons ?k4 ad_nil rfl) rfl) rfl) rfl) allD4 (r_spared hv hi hg) rfl rfl rfl rfl) ?k7 ?k8) ?k5) (fun z => nomatch z) ?k6
                case k1 => walk_at "ev"
                case k2 => walk_at "ev"
                case k3 => walk_at "ev"
                case k4 => walk_at "ev"
                case k7 => walk_at "ev"
                case k8 => exact rfl
                case k5 => exact decide_eq_false (fun h => h rfl)
                case k6 =>
                  intro _
                  exact sds_nil (sds_nil ⟨s4, _, _, _, _, _, rfl⟩)
end
theorem hsp {K : PySem.W.Frag} (H : Hp) (a : Addr) (ns : List Int) (hS : SqL K H a (ns.map V.int)) : spF K R_law [.ref a] H (fun v _ => v = .bl true) fun _ _ _ => False :=
  ⟨H, [], [.d (.lst (ns.map D.int))], [], .bl true, [], .refl _, .cons (.d (.lst hS (RpAll.of_ints ns))) .nil, ⟨rfl, fun i l h => by simp at h⟩, .nil, ⟨ns, rfl, rfl, rfl, rfl⟩, by simp, fun S' H' v _ r _ => r.bl_inv⟩
theorem facts {P : Program} {w : World} {K : PySem.W.Frag} {h : Heap} {mg : Str → Option Value} {f : Addr} (X : K.In h) (G : h.Ns mainGlobals mg) (hfa : mg ("law" : Str) = some (.ref f)) (c : HK.SaysM Pr.hfa hfn K) :
    ∃ fd : FuncData, (∀ (s : Shared) (v : Value), BindsTo s fd ⟨[v], []⟩ [("_law_script", v)]) ∧ ∀ base : Heap, K.In base → base.Ns mainGlobals mg → FnOk P w K mg base CX0 10 f fd ["_law_script"] (spF K R_law) := by
  have T := hTx X G c
  obtain ⟨fd, F⟩ := T.d_law
  have e := hfa.symm.trans T.g_law
  cases e
  have b := FunD.bindsA (ps := ["_law_script"]) F fun _ _ _ _ _ _ us hl => match us, hl with | [_], _ => rfl
  exact ⟨fd, fun s v => b s [v] rfl, fun base _ _ => ok_law T F⟩
end Pr
open PySem PySem.W PySem.Calls PyProof.Rows
theorem PySem.Challenge.cw_rowdominoes_k17_whole_stones_that_are_ta_holds : PySem.Challenge.rw_rowdominoes_k17_whole_stones_that_are_ta.Holds := by
  w_on; o_law
  refine HandSHeadRun.head_any (r := Pr.hR) (q := view Pr.hR.prog [35]) (H := Pr.hhk) (ob := Pr.hob) (M := 12000) (loose := Pr.hloose) (d := HandSHeadRun.topDef Pr.hR.prog 35) (kwd := []) Pr.hob_eq
    (by kernel_rfl) (fun s => by kernel_rfl) Pr.hrun (by kernel_rfl) (by kernel_rfl) (by kernel_rfl) (by rfl) (by first | assumption | decide +kernel) (by decide +kernel) ⟨rfl, rfl, rfl, rfl, rfl, by decide +kernel⟩ ?hw ?hc
  case hw => w_witness2
  case hc =>
    refine L2.walk_ofE (l := PySem.Challenge.rw_rowdominoes_k17_whole_stones_that_are_ta) (n := 63) (k := 10) (x := "_law_script") (CX := L2.CX0) rfl (by decide) (by kernel_rfl) ⟨rfl, by decide, by decide⟩ ?F (fun _ _ _ _ z => z)
    intro w mg fa h Y G hmg0
    obtain ⟨K, KX, c⟩ := Y
    have hmg : mg ("law" : PySem.Str) = some (.ref fa) := by
      have e : (HandSHeadRun.topDef Pr.hR.prog 35).name = ("law" : PySem.Str) := by kernel_rfl
      rw [← e]
      exact hmg0
    obtain ⟨fd, hb, hF⟩ := Pr.facts (P := (PySem.Challenge.rw_rowdominoes_k17_whole_stones_that_are_ta).prog) (w := w) KX G hmg c
    exact ⟨K, fd, DL.spF K Pr.R_law, KX, hb, fun H a ns hl _ hS => Pr.hsp H a ns hS, hF⟩
